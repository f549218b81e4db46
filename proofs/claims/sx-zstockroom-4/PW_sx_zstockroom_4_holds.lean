import PyProof.Rows.All
import Wide.All
import OpenK.AllK
import Wide.FinOn
import PyProof.TableCode
import PyProof.Rows.GenRows
import OpenK.KRaise
import KE.KDictOf
import KE.KIntText
import KE.KWords
import PySem.Challenge.RW_sx_zstockroom_4
set_option Elab.async false
set_option genSizeOf false
set_option genInjectivity false
section
set_option Elab.async false
namespace Mine
open PySem PySem.W PySem.Calls PyProof.Rows

/-- the data that the two laws handle -/
inductive V where
  | none
  | bool (b : Bool)
  | int (i : Int)
  | flt (x : UInt64)
  | str (x : PySem.Str)
  | tuple (ds : List V)
  | list (ds : List V)
  | dict (kvs : List (PySem.Str × V))

noncomputable def V.atom : V → Bool
  | .tuple _ | .list _ | .dict _ => false
  | _ => true

/-- a dict's size, its keys' sizes -/
noncomputable def Sz (kvs : List (PySem.Str × Value)) : Prop := kvs.length ≤ sizeLine ∧ ∀ p ∈ kvs, p.1.length ≤ sizeLine
mutual
/-- the value `v` lies in the heap as the datum; each object's address is `ok` -/
inductive R (P : Program × World) (ok : Addr → Prop) (h : Heap) : Value → V → Prop
  | none : R P ok h .none .none
  | bool (b : Bool) : R P ok h (.bool b) (.bool b)
  | int (i : Int) (t : Tok) : R P ok h (.int i t) (.int i)
  | flt (x : UInt64) (t : Tok) : R P ok h (.float x t) (.flt x)
  | str (x : PySem.Str) (t : Tok) : x.length ≤ sizeLine → R P ok h (.str x t) (.str x)
  | tuple {a : Addr} {o : Obj} {vs : List Value} {n : Nat} {ds : List V} : ok a → h.get? a = some o → o.cls = .type "tuple" → o.data = .seq vs.toArray n → vs.length ≤ sizeLine → RA P ok h vs ds → R P ok h (.ref a) (.tuple ds)
  | list {a : Addr} {o : Obj} {vs : List Value} {n : Nat} {ds : List V} : ok a → h.get? a = some o → o.cls = .type "list" → o.data = .seq vs.toArray n → vs.length ≤ sizeLine → RA P ok h vs ds → R P ok h (.ref a) (.list ds)
  | dict {a : Addr} {kvs : List (PySem.Str × Value)} {ds : List V} : ok a → h.DictOf (strKind P.1 P.2) a kvs → (a == sysModules) = false → RA P ok h (kvs.map (·.2)) ds → Sz kvs → R P ok h (.ref a) (.dict ((kvs.map (·.1)).zip ds))
inductive RA (P : Program × World) (ok : Addr → Prop) (h : Heap) : List Value → List V → Prop
  | nil : RA P ok h [] []
  | cons {v : Value} {vs : List Value} {d : V} {ds : List V} : R P ok h v d → RA P ok h vs ds → RA P ok h (v :: vs) (d :: ds)
end

/-- a list, a tuple, a dict -/
noncomputable def Held (o : Obj) : Prop := o.cls = .type "list" ∨ o.cls = .type "tuple" ∨ o.cls = .type "dict"
/-- all lists, tuples, dicts at ok addresses stay -/
noncomputable def UpAt (ok : Addr → Prop) (h h' : Heap) : Prop := ∀ b o, ok b → h.get? b = some o → Held o → h'.get? b = some o
theorem noFrame {o : Obj} {T : String} (h : o.cls = .type T) (hT : T ≠ "frame") : o.cls ≠ .type "frame" := fun q => by
  rw [h] at q; injection q with q; exact hT q

theorem Held.noFrame {o : Obj} (h : Held o) : o.cls ≠ .type "frame" := by
  rcases h with h | h | h <;> exact Mine.noFrame h (by decide)
theorem RA.mono {P : Program × World} {ok ok' : Addr → Prop} {h h' : Heap} (k : UpAt ok h h') (hk : ∀ b o, ok b → h.get? b = some o → ok' b) {vs : List Value} {ds : List V} (x : RA P ok h vs ds) : RA P ok' h' vs ds :=
  RA.rec (motive_1 := fun v d _ => R P ok' h' v d) (motive_2 := fun vs ds _ => RA P ok' h' vs ds) .none .bool .int .flt .str
    (fun h0 h1 h2 h3 hs _ ih => .tuple (hk _ _ h0 h1) (k _ _ h0 h1 (.inr (.inl h2))) h2 h3 hs ih)
    (fun h0 h1 h2 h3 hs _ ih => .list (hk _ _ h0 h1) (k _ _ h0 h1 (.inl h2)) h2 h3 hs ih)
    (fun h0 h1 h2 _ hs ih => by
      obtain ⟨o, ho, hd⟩ := Heap.dictOf_iff.mp h1
      have hc : o.cls = .type "dict" := let ⟨_, _, hc, _⟩ := hd; hc.1
      exact .dict (hk _ _ h0 ho) (Heap.dictOf_iff.mpr ⟨o, k _ o h0 ho (.inr (.inr hc)), hd⟩) h2 ih hs)
    .nil (fun _ _ a b => .cons a b) x
theorem R.mono {P : Program × World} {ok ok' : Addr → Prop} {h h' : Heap} (k : UpAt ok h h') (hk : ∀ b o, ok b → h.get? b = some o → ok' b) {v : Value} {d : V} (x : R P ok h v d) : R P ok' h' v d := by
  cases RA.mono k hk (.cons x .nil) with
  | cons a _ => exact a
section
variable {P : Program × World} {ok ok' : Addr → Prop} {h h' : Heap} {v : Value} {d : V} {vs ws : List Value} {ds es : List V}
theorem R.weak (hk : ∀ b, ok b → ok' b) (r : R P ok h v d) : R P ok' h v d := r.mono (fun b o _ e _ => e) fun b _ x _ => hk b x
theorem RA.weak (hk : ∀ b, ok b → ok' b) (r : RA P ok h vs ds) : RA P ok' h vs ds := r.mono (fun b o _ e _ => e) fun b _ x _ => hk b x
theorem R.atom_any (r : R P ok h v d) (ha : d.atom = true) : R P ok' h' v d := by
  cases r with
  | none => exact .none
  | bool b => exact .bool b
  | int i t => exact .int i t
  | flt x t => exact .flt x t
  | str x t hx => exact .str x t hx
  | tuple => cases ha
  | list => cases ha
  | dict => cases ha
theorem RA.length (r : RA P ok h vs ds) : vs.length = ds.length := by
  induction vs generalizing ds with
  | nil => cases r; rfl
  | cons v vs ih => cases r with | cons _ r => rw [List.length_cons, List.length_cons, ih r]
theorem RA.append (r : RA P ok h vs ds) (q : RA P ok h ws es) : RA P ok h (vs ++ ws) (ds ++ es) := by
  induction vs generalizing ds with
  | nil => cases r; exact q
  | cons v vs ih => cases r with | cons a r => exact .cons a (ih r)
theorem RA.one (r : R P ok h v d) : RA P ok h [v] [d] := .cons r .nil
theorem RA.take (r : RA P ok h vs ds) (k : Nat) : RA P ok h (vs.take k) (ds.take k) := by
  induction vs generalizing ds k with
  | nil => cases r; simp; exact .nil
  | cons v vs ih =>
    cases r with
    | cons a r =>
      cases k with
      | zero => exact .nil
      | succ k => exact .cons a (ih r k)
theorem RA.drop (r : RA P ok h vs ds) (k : Nat) : RA P ok h (vs.drop k) (ds.drop k) := by
  induction vs generalizing ds k with
  | nil => cases r; simp; exact .nil
  | cons v vs ih =>
    cases r with
    | cons a r =>
      cases k with
      | zero => exact .cons a r
      | succ k => exact ih r k
theorem RA.get (r : RA P ok h vs ds) {k : Nat} (hd : ds[k]? = some d) : ∃ v, vs[k]? = some v ∧ R P ok h v d := by
  induction vs generalizing ds k with
  | nil => cases r; simp at hd
  | cons v vs ih =>
    cases r with
    | cons a r =>
      cases k with
      | zero => simp at hd; subst hd; exact ⟨v, rfl, a⟩
      | succ k => exact ih r (by simpa using hd)
theorem RA.getV (r : RA P ok h vs ds) {k : Nat} (hv : vs[k]? = some v) : ∃ d, ds[k]? = some d ∧ R P ok h v d := by
  induction vs generalizing ds k with
  | nil => simp at hv
  | cons v' vs ih =>
    cases r with
    | cons a r =>
      cases k with
      | zero => simp at hv; subst hv; exact ⟨_, rfl, a⟩
      | succ k => exact ih r (by simpa using hv)
end
end Mine
end

section
set_option Elab.async false
namespace Mine
open PySem PySem.W PySem.Calls PyProof.Rows

/-! ## the small language: what the bodies of the two laws say -/
inductive BOp where | add | sub | mod | mul | pow
inductive COp where | eq | ne | lt | gt | ge | isIn | notIn
inductive Mth where | strip | isprintable | isascii | isdigit | removeprefix | lstrip | startswith | split0 | split1 | join
mutual
inductive IE where
  | const (v : V)
  | var (x : String)
  | glob (x : String)
  | bin (op : BOp) (a b : IE)
  | neg (a : IE)
  | orv (a b : IE)
  | ife (t : TE) (a b : IE)
  | call (f : String) (args : List IE)
  | len (a : IE)
  | strOf (a : IE)
  | intOf (a : IE)
  | dictOf (x : String)
  | isinst (a : IE) (T : String)
  | meth (m : Mth) (o : IE) (args : List IE)
  | items (x : String)
  | index (a i : IE)
  | upto (a i : IE)
  | behind (a i : IE)
  | list (es : List IE)
  | tuple (es : List IE)
  | comp (elt : IE) (x : String) (it : It) (cond : Option TE)
  | fstr (ps : List FP)
inductive TE where
  | tt (e : IE)
  | cmp (op : COp) (a b : IE)
  | between (a b c : IE)
  | isNone (a : IE) (yes : Bool)
  | typeIs (a : IE) (T : String) (yes : Bool)
  | not (t : TE)
  | and (ts : List TE)
  | or (ts : List TE)
inductive FP where
  | lit (x : PySem.Str)
  | fmt (e : IE)
  | asc (e : IE)
inductive It where
  | plain (e : IE)
  | rev (e : IE)
  | range (e : IE)
  | enum (e : IE)
end
inductive IS where
  | assign (x : String) (e : IE)
  | unpack (xs : List String) (e : IE)
  | newAcc (x : String)
  | newTab (x : String)
  | append (x : String) (e : IE)
  | appendMut (x f t : String) (args : List IE)
  | setKey (t : String) (k v : IE)
  | popTo (y t : String) (k : IE)
  | popKey (t : String) (k : IE)
  | delKey (t : String) (k : IE)
  | ite (t : TE) (a b : List IS)
  | for1 (x : String) (it : It) (body : List IS)
  | forN (xs : List String) (it : It) (body : List IS)
  | ret (e : IE)
  | raise (e : IE)
  | tryStr (x : String) (e : IE) (y er : String)
  | tryLine (t₁ : TE) (x : String) (e₁ : IE) (t₂ : TE) (e₂ : IE) (m : IE) (number : String)
  | pickFirst (x y t : String)
  | guardAny (x : String) (e : IE) (k : Option Int) (T : String) (yes : Bool)
  | cont
  | brk

/-! ## what it means -/
/-- the text of a ValueError; true: it has no context -/
abbrev Msg := PySem.Str × Bool
inductive Res (α : Type) where
  | ok (a : α)
  | exc (msg : Msg)
  | bad
noncomputable def Res.bind {α β : Type} : Res α → (α → Res β) → Res β
  | .ok a, f => f a
  | .exc m, _ => .exc m
  | .bad, _ => .bad
inductive Slot where
  | val (d : V) (f : Bool)
  | acc (ds : List V)
  | tab (kvs : List (PySem.Str × V))
  | gone
abbrev Frm := List (String × Slot)
noncomputable def upd (x : String) (sl : Slot) : Frm → Frm
  | [] => [(x, sl)]
  | (y, s) :: r => if y = x then (x, sl) :: r else (y, s) :: upd x sl r
inductive Fl where
  | next | cont | brk
  | ret (d : V) (f : Bool)
structure Rec where
  has : String → Bool
  ev : Frm → IE → Res (V × Bool)
  ts : Frm → TE → Res Bool
  ex : Frm → IS → Res (Fl × Frm)
  fn : String → List (V × Bool) → Res (V × Bool)
  fm : String → List (PySem.Str × V) → List (V × Bool) → Res ((V × Bool) × List (PySem.Str × V))
end Mine
end

section
set_option Elab.async false
namespace Mine
open PySem PySem.W PySem.Calls PyProof.Rows

/-- lengths that surely fit -/
noncomputable def lim : Nat := 1000000
noncomputable def truthV : V → Res Bool
  | .none => .ok false
  | .bool b => .ok b
  | .int i => .ok (i != 0)
  | .str x => .ok (x.length != 0)
  | .list ds => .ok (!ds.isEmpty)
  | _ => .bad
section
variable {α β : Type}
noncomputable def onInt (d : V) (f : Int → Res α) : Res α := match d with
  | .int i => f i
  | _ => .bad
noncomputable def onStr (d : V) (f : PySem.Str → Res α) : Res α := match d with
  | .str x => f x
  | _ => .bad
noncomputable def onList (d : V) (f : List V → Res α) : Res α := match d with
  | .list ds => f ds
  | _ => .bad
noncomputable def onTup (d : V) (f : List V → Res α) : Res α := match d with
  | .tuple ds => f ds
  | _ => .bad
noncomputable def onO (o : Option β) (f : β → Res α) : Res α := match o with
  | some b => f b
  | none => .bad
end
noncomputable def addV (u v : V × Bool) : Res V := match u.1 with
  | .int a => onInt v.1 fun b => .ok (.int (a + b))
  | .str a => onStr v.1 fun b => if a.length + b.length ≤ lim then .ok (.str (a ++ b)) else .bad
  | .list a => onList v.1 fun b => if (u.2 = true ∧ v.2 = true) ∧ a.length + b.length ≤ lim then .ok (.list (a ++ b)) else .bad
  | .tuple a => onTup v.1 fun b => if (u.2 = true ∧ v.2 = true) ∧ a.length + b.length ≤ lim ∧ a.length ≠ 0 ∧ b.length ≠ 0 then .ok (.tuple (a ++ b)) else .bad
  | _ => .bad
noncomputable def binV (o : BOp) (u v : V × Bool) : Res V := match o with
  | .add => addV u v
  | .sub => onInt u.1 fun a => onInt v.1 fun b => .ok (.int (a - b))
  | .pow => onInt u.1 fun a => onInt v.1 fun n => if 0 ≤ n ∧ n ≤ 1000 ∧ a.natAbs < 2 ^ 64 then .ok (.int (a ^ n.toNat)) else .bad
  | .mod => onInt u.1 fun a => onInt v.1 fun b => if b ≠ 0 then .ok (.int (a.fmod b)) else .bad
  | .mul => onStr u.1 fun a => onInt v.1 fun n => if 0 ≤ n ∧ a.length * n.toNat ≤ lim ∧ n ≤ 1000000 then .ok (.str (Txt.mul a n)) else .bad
mutual
noncomputable def V.py : V → Option PyData
  | .none => some .none
  | .bool b => some (.bool b)
  | .int i => some (.int i)
  | .str x => some (.str x)
  | .tuple ds => (V.pys ds).map .tuple
  | .list ds => (V.pys ds).map .list
  | _ => Option.none
noncomputable def V.pys : List V → Option (List PyData)
  | [] => some []
  | d :: ds => do let a ← V.py d; let b ← V.pys ds; pure (a :: b)
end
/-- == of two data -/
noncomputable def eqD (mk : List PyData → PyData) (a b : List V) : Res Bool := onO (V.pys a) fun p => onO (V.pys b) fun q => if SeqAt.shaped (mk p) ∧ SeqAt.shaped (mk q) then .ok (PyData.eqv (mk p) (mk q)) else .bad
noncomputable def eqV (d e : V) : Res Bool := match d with
  | .int a => onInt e fun b => .ok (a == b)
  | .str a => onStr e fun b => .ok (a == b)
  | .list a => onList e fun b => eqD .list a b
  | .tuple a => onTup e fun b => eqD .tuple a b
  | _ => .bad
/-- the strs of a list of strs -/
noncomputable def strsOf : List V → Option (List PySem.Str)
  | [] => some []
  | .str x :: r => (strsOf r).map (x :: ·)
  | _ => Option.none
noncomputable def inV (x y : V) : Res Bool := onStr x fun k => match y with
  | .list ds => onO (strsOf ds) fun ks => .ok (ks.any (· == k))
  | .dict kvs => .ok ((kvs.lookup k).isSome)
  | _ => .bad
noncomputable def ltV (f : Int → Int → Bool) (d e : V) : Res Bool := onInt d fun a => onInt e fun b => .ok (f a b)
noncomputable def cmpV (o : COp) (a b : V) : Res Bool := match o with
  | .eq => eqV a b
  | .ne => (eqV a b).bind fun r => .ok (!r)
  | .lt => ltV (fun a b => decide (a < b)) a b
  | .gt => ltV (fun a b => decide (a > b)) a b
  | .ge => ltV (fun a b => decide (a ≥ b)) a b
  | .isIn => inV a b
  | .notIn => (inV a b).bind fun r => .ok (!r)
noncomputable def lenV : V → Res Int
  | .str x => .ok (x.length : Int)
  | .list ds => .ok (ds.length : Int)
  | .tuple ds => .ok (ds.length : Int)
  | .dict kvs => .ok (kvs.length : Int)
  | _ => .bad
noncomputable def atV (ds : List V) (e : V) : Res V := onInt e fun i => if 0 ≤ i then onO ds[i.toNat]? .ok else .bad
noncomputable def indexV (d e : V) : Res V := match d with
  | .list ds => atV ds e
  | .tuple ds => atV ds e
  | .str x => onInt e fun i => if 0 ≤ i then onO x.cps[i.toNat]? fun c => .ok (.str ⟨#[c]⟩) else .bad
  | .dict kvs => onStr e fun k => onO (kvs.lookup k) .ok
  | _ => .bad
noncomputable def arg0 (ds : List V) (r : Res V) : Res V := match ds with
  | [] => r
  | _ => .bad
noncomputable def arg1 (ds : List V) (f : V → Res V) : Res V := match ds with
  | [d] => f d
  | _ => .bad
noncomputable def methV (m : Mth) (x : PySem.Str) (ds : List V) : Res V := match m with
  | .strip => arg0 ds (.ok (.str (Txt.strip x)))
  | .isprintable => arg0 ds (.ok (.bool (Txt.isprintable x)))
  | .isascii => arg0 ds (.ok (.bool (Txt.isascii x)))
  | .isdigit => arg0 ds (.ok (.bool (Txt.isdigit x)))
  | .removeprefix => arg1 ds fun d => onStr d fun y => .ok (.str (Txt.removeprefix x y))
  | .lstrip => arg1 ds fun d => onStr d fun y => .ok (.str (Txt.lstripChars x y))
  | .startswith => arg1 ds fun d => onStr d fun y => .ok (.bool (Txt.startswith x y))
  | .split0 => arg0 ds (if x.length ≤ lim then .ok (.list ((Txt.words x).map .str)) else .bad)
  | .split1 => arg1 ds fun d => onStr d fun y => if x.length ≤ lim ∧ y.length ≠ 0 then .ok (.list ((Txt.split x y).map .str)) else .bad
  | .join => arg1 ds fun d => onList d fun es => onO (strsOf es) fun ks => if (ks.map (·.length)).sum + ks.length * x.length ≤ lim then .ok (.str (Txt.join x ks)) else .bad
noncomputable def typeV : V → Res String
  | .none => .ok "NoneType"
  | .bool _ => .ok "bool"
  | .int _ => .ok "int"
  | .str _ => .ok "str"
  | .flt _ => .ok "float"
  | _ => .bad
noncomputable def instV (d : V) (T : String) : Res Bool := (typeV d).bind fun t => if T = "str" ∨ T = "int" ∨ T = "bool" then .ok (t == T || (t == "bool" && T == "int")) else .bad
noncomputable def ascEsc (c : Nat) : List Nat :=
  let hex (width : Nat) : List Nat := let d := (Nat.toDigits 16 c).map Char.toNat; List.replicate (width - d.length) 48 ++ d
  if c < 128 then [c] else if c < 256 then [92, 120] ++ hex 2 else if c < 65536 then [92, 117] ++ hex 4 else [92, 85] ++ hex 8
noncomputable def asciiText (x : PySem.Str) : PySem.Str := if (reprText x).cps.all (· < 128) then reprText x else ⟨(reprText x).cps.flatMap fun c => (ascEsc c).toArray⟩
end Mine
end

section
set_option Elab.async false
namespace Mine
open PySem PySem.W PySem.Calls PyProof.Rows

noncomputable def fzV (u : V × Bool) : Res V := if u.2 || u.1.atom then .ok u.1 else .bad
noncomputable def evs (r : Rec) (φ : Frm) : List IE → Res (List (V × Bool))
  | [] => .ok []
  | e :: es => (r.ev φ e).bind fun u => (evs r φ es).bind fun us => .ok (u :: us)
noncomputable def fzs : List (V × Bool) → Res (List V)
  | [] => .ok []
  | u :: us => (fzV u).bind fun d => (fzs us).bind fun ds => .ok (d :: ds)
noncomputable def pairOf (d : V) : Option (PySem.Str × V) := match d with
  | .tuple ds => match ds with
    | [k, v] => match k with
      | .str k => if v.atom then some (k, v) else none
      | _ => none
    | _ => none
  | _ => none
noncomputable def pairsOf : List V → Option (List (PySem.Str × V))
  | [] => some []
  | d :: r => (pairOf d).bind fun p => (pairsOf r).map (p :: ·)
/-- a dict filled with pairs, in their order -/
noncomputable def dictPut (kvs : List (PySem.Str × V)) (k : PySem.Str) (v : V) : List (PySem.Str × V) :=
  if kvs.any (fun kv => decide (kv.1 = k)) then kvs.map (fun kv => if kv.1 = k then (kv.1, v) else kv) else kvs ++ [(k, v)]
noncomputable def dictFill (ps : List (PySem.Str × V)) : List (PySem.Str × V) := ps.foldl (fun d p => dictPut d p.1 p.2) []
noncomputable def onTab {α : Type} (o : Option Slot) (f : List (PySem.Str × V) → Res α) : Res α := match o with
  | some (.tab kvs) => f kvs
  | _ => .bad
noncomputable def onAcc {α : Type} (o : Option Slot) (f : List V → Res α) : Res α := match o with
  | some (.acc ds) => f ds
  | _ => .bad
/-- what is walked over: a name that holds no cell of our own, or a value that may be kept -/
noncomputable def evIt (r : Rec) (φ : Frm) (e : IE) : Res (V × Bool) := match e with
  | .var x => match φ.lookup x with
    | some (.val d f) => .ok (d, f)
    | _ => .bad
  | e => (r.ev φ e).bind fun u => if u.2 then .ok u else .bad
noncomputable def iterI (r : Rec) (φ : Frm) : It → Res (List (V × Bool))
  | .plain e => (evIt r φ e).bind fun u => match u.1 with
    | .list ds => .ok (ds.map fun d => (d, u.2))
    | .tuple ds => .ok (ds.map fun d => (d, u.2))
    | _ => .bad
  | .rev e => (evIt r φ e).bind fun u => onList u.1 fun ds => .ok (ds.reverse.map fun d => (d, u.2))
  | .range e => (r.ev φ e).bind fun u => onInt u.1 fun n => if 0 ≤ n ∧ n ≤ 1000000 then .ok ((List.range n.toNat).map fun (i : Nat) => (V.int (i : Int), true)) else .bad
  | .enum e => (evIt r φ e).bind fun u => onList u.1 fun ds => if ds.length ≤ lim then .ok (ds.zipIdx.map fun p => (.tuple [.int ((p.2 : Int) + 1), p.1], u.2)) else .bad
/-- the frozen data alone -/
noncomputable def Slot.kept : Slot → Slot
  | .val d f => .val d f
  | _ => .gone
noncomputable def vals (φ : Frm) : Frm := φ.map fun p => (p.1, p.2.kept)
noncomputable def condI (r : Rec) (φ : Frm) : Option TE → Res Bool
  | some t => r.ts φ t
  | none => .ok true
noncomputable def compI (r : Rec) (φ : Frm) (elt : IE) (x : String) (cond : Option TE) : List (V × Bool) → Res (List V)
  | [] => .ok []
  | u :: us => match condI r (upd x (.val u.1 u.2) φ) cond with
    | .ok true => match (r.ev (upd x (.val u.1 u.2) φ) elt).bind fzV with
      | .ok e => (compI r φ elt x cond us).bind fun es => .ok (e :: es)
      | _ => .bad
    | .ok false => compI r φ elt x cond us
    | _ => .bad
noncomputable def It.simple : It → Bool
  | .enum _ => false
  | _ => true
noncomputable def partI (r : Rec) (φ : Frm) : FP → Res PySem.Str
  | .lit x => .ok x
  | .fmt e => (r.ev φ e).bind fun u => match u.1 with
    | .int i => if i.natAbs < 2 ^ 100 then .ok (PySem.Str.ofString (toString i)) else .bad
    | .str x => .ok x
    | _ => .bad
  | .asc e => (r.ev φ e).bind fun u => onStr u.1 fun x => if (reprText x).length ≤ 100000 ∧ (asciiText x).length ≤ lim then .ok (asciiText x) else .bad
noncomputable def partsI (r : Rec) (φ : Frm) : PySem.Str → List FP → Res PySem.Str
  | out, [] => .ok out
  | out, p :: ps => (partI r φ p).bind fun x => if out.length + x.length ≤ lim then partsI r φ (out ++ x) ps else .bad

noncomputable def evI (consts : String → Option V) (r : Rec) (φ : Frm) : IE → Res (V × Bool)
  | .const v => .ok (v, true)
  | .var x => match φ.lookup x with
    | some (.val d f) => .ok (d, f)
    | some (.acc ds) => .ok (.list ds, false)
    | some (.tab kvs) => .ok (.dict kvs, false)
    | _ => .bad
  | .glob x => onO (consts x) fun d => .ok (d, true)
  | .bin op a b => (r.ev φ a).bind fun u => (r.ev φ b).bind fun v => (binV op u v).bind fun d => .ok (d, true)
  | .neg a => (r.ev φ a).bind fun u => onInt u.1 fun i => .ok (.int (-i), true)
  | .orv a b => (r.ev φ a).bind fun u => (truthV u.1).bind fun t => if t then .ok u else r.ev φ b
  | .ife t a b => (r.ts φ t).bind fun c => if c then r.ev φ a else r.ev φ b
  | .call f as => if r.has f then (evs r φ as).bind fun us => r.fn f us else .bad
  | .len a => (r.ev φ a).bind fun u => (lenV u.1).bind fun n => .ok (.int n, true)
  | .strOf a => (r.ev φ a).bind fun u => match u.1 with
    | .int i => if i.natAbs < 2 ^ 100 then .ok (.str (PySem.Str.ofString (toString i)), true) else .bad
    | .str x => .ok (.str x, true)
    | _ => .bad
  | .intOf a => (r.ev φ a).bind fun u => onStr u.1 fun x => if x.length ≤ 640 then onO (PySem.intText? x) fun n => .ok (.int n, true) else .bad
  | .dictOf x => onAcc (φ.lookup x) fun ds => onO (pairsOf ds) fun ps => if ps.length ≤ 1000 then .ok (.dict (dictFill ps), true) else .bad
  | .isinst a T => (r.ev φ a).bind fun u => (instV u.1 T).bind fun b => .ok (.bool b, true)
  | .meth m o as => (r.ev φ o).bind fun u => onStr u.1 fun x => (evs r φ as).bind fun us => (methV m x (us.map (·.1))).bind fun d => .ok (d, true)
  | .items x => onTab (φ.lookup x) fun kvs => if kvs.length ≤ 1000 then .ok (.list (kvs.map fun p => .tuple [.str p.1, p.2]), true) else .bad
  | .index a i => (r.ev φ a).bind fun u => (r.ev φ i).bind fun j => (indexV u.1 j.1).bind fun d => .ok (d, u.2)
  | .upto a i => (r.ev φ a).bind fun u => (r.ev φ i).bind fun j => onInt j.1 fun n => match u.1 with
    | .str x => if 0 ≤ n ∧ n < 2 ^ 60 then .ok (.str (Txt.slice x none (some n)), true) else .bad
    | .list ds => if u.2 = true ∧ 0 ≤ n ∧ n < 2 ^ 60 ∧ ds.length ≤ lim then .ok (.list (ds.take n.toNat), true) else .bad
    | _ => .bad
  | .behind a i => (r.ev φ a).bind fun u => (r.ev φ i).bind fun j => onList u.1 fun ds => onInt j.1 fun n => if u.2 = true ∧ 0 ≤ n ∧ n < 2 ^ 60 ∧ ds.length ≤ lim then .ok (.list (ds.drop n.toNat), true) else .bad
  | .list es => (evs r φ es).bind fun us => (fzs us).bind fun ds => if ds.length ≤ lim then .ok (.list ds, true) else .bad
  | .tuple es => (evs r φ es).bind fun us => if us.length ≤ lim then .ok (.tuple (us.map (·.1)), us.all fun u => u.2 || u.1.atom) else .bad
  | .comp elt x it cond => if it.simple then (iterI r φ it).bind fun us => if us.length ≤ lim then (compI r (vals φ) elt x cond us).bind fun es => .ok (.list es, true) else .bad else .bad
  | .fstr ps => (partsI r φ PySem.Str.empty ps).bind fun x => .ok (.str x, true)

noncomputable def allI (r : Rec) (φ : Frm) : List TE → Res Bool
  | [] => .bad
  | [t] => r.ts φ t
  | t :: ts => (r.ts φ t).bind fun b => if b then allI r φ ts else .ok false
noncomputable def anyI (r : Rec) (φ : Frm) : List TE → Res Bool
  | [] => .bad
  | [t] => r.ts φ t
  | t :: ts => (r.ts φ t).bind fun b => if b then .ok true else anyI r φ ts
noncomputable def tsI (r : Rec) (φ : Frm) : TE → Res Bool
  | .tt e => (r.ev φ e).bind fun u => truthV u.1
  | .cmp op a b => (r.ev φ a).bind fun u => (r.ev φ b).bind fun v => cmpV op u.1 v.1
  | .between a b c => (r.ev φ a).bind fun u => (r.ev φ b).bind fun v => onInt u.1 fun x => onInt v.1 fun y => if x ≤ y then (r.ev φ c).bind fun z => onInt z.1 fun z => .ok (decide (y ≤ z)) else .ok false
  | .isNone a yes => (r.ev φ a).bind fun u => match u.1 with | .none => .ok yes | _ => .ok (!yes)
  | .typeIs a T yes => (r.ev φ a).bind fun u => (typeV u.1).bind fun t => .ok ((t == T) == yes)
  | .not t => (r.ts φ t).bind fun b => .ok (!b)
  | .and ts => allI r φ ts
  | .or ts => anyI r φ ts

noncomputable def blk (r : Rec) : Frm → List IS → Res (Fl × Frm)
  | φ, [] => .ok (.next, φ)
  | φ, i :: is => (r.ex φ i).bind fun p => match p.1 with
    | .next => blk r p.2 is
    | f => .ok (f, p.2)
noncomputable def updAll (f : Bool) : List String → List V → Frm → Res Frm
  | [], [], φ => .ok φ
  | x :: xs, d :: ds, φ => if f || d.atom then updAll f xs ds (upd x (.val d true) φ) else .bad
  | _, _, _ => .bad
noncomputable def bnd1 (x : String) (u : V × Bool) (φ : Frm) : Res Frm := (fzV u).bind fun d => .ok (upd x (.val d true) φ)
noncomputable def bndN (xs : List String) (u : V × Bool) (φ : Frm) : Res Frm := onTup u.1 fun ds => updAll u.2 xs ds φ
noncomputable def loopG (r : Rec) (bnd : V × Bool → Frm → Res Frm) (body : List IS) : Frm → List (V × Bool) → Res (Fl × Frm)
  | φ, [] => .ok (.next, φ)
  | φ, u :: us => (bnd u φ).bind fun φ' => (blk r φ' body).bind fun p => match p.1 with
    | .next => loopG r bnd body p.2 us
    | .cont => loopG r bnd body p.2 us
    | .brk => .ok (.next, p.2)
    | .ret d f => .ok (.ret d f, p.2)
noncomputable def freeze : Frm → Frm
  | [] => []
  | (x, .acc ds) :: r => (x, .val (.list ds) true) :: freeze r
  | p :: r => p :: freeze r
noncomputable def dictDel (k : PySem.Str) (kvs : List (PySem.Str × V)) : List (PySem.Str × V) := kvs.filter fun p => p.1 ≠ k
noncomputable def appI (r : Rec) (φ : Frm) (x : String) (e : IE) : Res (Fl × Frm) := onAcc (φ.lookup x) fun ds => (r.ev φ e).bind fun u => (fzV u).bind fun d => if ds.length < lim then .ok (.next, upd x (.acc (ds ++ [d])) φ) else .bad
noncomputable def raiseI (r : Rec) (φ : Frm) (e : IE) : Res (Fl × Frm) := (r.ev φ e).bind fun u => onStr u.1 fun m => .exc (m, true)
noncomputable def tryLineI (r : Rec) (φ : Frm) (t₁ : TE) (x : String) (e₁ : IE) (t₂ : TE) (e₂ m : IE) : Res (Fl × Frm) :=
  (r.ts φ t₁).bind fun b => if b then appI r φ x e₁ else (r.ts φ t₂).bind fun b => if b then appI r φ x e₂ else raiseI r φ m
noncomputable def partV (k : Option Int) (d : V) : Res V := match k with
  | none => .ok d
  | some k => indexV d (.int k)
/-- no item, no part of one, is of the type -/
noncomputable def noneV (k : Option Int) (T : String) (yes : Bool) : List V → Res Unit
  | [] => .ok ()
  | d :: ds => (partV k d).bind fun d => (typeV d).bind fun t => if ((t == T) == yes) = false then noneV k T yes ds else .bad
noncomputable def exI (r : Rec) (φ : Frm) : IS → Res (Fl × Frm)
  | .assign x e => (r.ev φ e).bind fun u => (fzV u).bind fun d => .ok (.next, upd x (.val d true) φ)
  | .unpack xs e => (r.ev φ e).bind fun u => onTup u.1 fun ds => (updAll u.2 xs ds φ).bind fun φ' => .ok (.next, φ')
  | .newAcc x => match φ.lookup x with | none => .ok (.next, upd x (.acc []) φ) | some _ => .bad
  | .newTab x => match φ.lookup x with | none => .ok (.next, upd x (.tab []) φ) | some _ => .bad
  | .append x e => appI r φ x e
  | .appendMut x f t as => onAcc (φ.lookup x) fun ds => onTab (φ.lookup t) fun kvs => if x ≠ t ∧ r.has f = true then (evs r φ as).bind fun us => (fzs us).bind fun _ => (r.fm f kvs us).bind fun q => (fzV q.1).bind fun d =>
        if ds.length < lim then .ok (.next, upd x (.acc (ds ++ [d])) (upd t (.tab q.2) φ)) else .bad else .bad
  | .setKey t k v => onTab (φ.lookup t) fun kvs => (r.ev φ v).bind fun u => (r.ev φ k).bind fun j => onStr j.1 fun k => (fzV u).bind fun d => if kvs.length ≤ 1000 then .ok (.next, upd t (.tab (dictPut kvs k d)) φ) else .bad
  | .popTo y t k => onTab (φ.lookup t) fun kvs => (r.ev φ k).bind fun j => onStr j.1 fun k => onO (kvs.lookup k) fun d => if kvs.length ≤ 1000 then .ok (.next, upd y (.val d true) (upd t (.tab (dictDel k kvs)) φ)) else .bad
  | .popKey t k => onTab (φ.lookup t) fun kvs => (r.ev φ k).bind fun j => onStr j.1 fun k => onO (kvs.lookup k) fun _ => if kvs.length ≤ 1000 then .ok (.next, upd t (.tab (dictDel k kvs)) φ) else .bad
  | .delKey t k => onTab (φ.lookup t) fun kvs => (r.ev φ k).bind fun j => onStr j.1 fun k => onO (kvs.lookup k) fun _ => if kvs.length ≤ 1000 then .ok (.next, upd t (.tab (dictDel k kvs)) φ) else .bad
  | .ite t a b => (r.ts φ t).bind fun c => blk r φ (if c then a else b)
  | .for1 x it body => (iterI r φ it).bind fun us => loopG r (bnd1 x) body φ us
  | .forN xs it body => (iterI r φ it).bind fun us => loopG r (bndN xs) body φ us
  | .ret e => (r.ev (freeze φ) e).bind fun u => .ok (.ret u.1 u.2, φ)
  | .raise e => raiseI r φ e
  | .tryStr x e y er => match (r.ev φ e).bind fun u => (fzV u).bind fun d => .ok d with
    | .ok d => .ok (.next, upd x (.val d true) φ)
    | .exc m => .ok (.next, upd y (.val (.str m.1) true) (upd er .gone φ))
    | .bad => .bad
  | .tryLine t₁ x e₁ t₂ e₂ m n => match tryLineI r φ t₁ x e₁ t₂ e₂ m with
    | .exc m => match φ.lookup n with
      | some (.val (.int i) _) => if i.natAbs < 2 ^ 60 ∧ m.1.length ≤ 100000 ∧ m.2 = true then .exc (PySem.Str.ofString "line " ++ PySem.Str.ofString (toString i) ++ PySem.Str.ofString ": " ++ m.1, false) else .bad
      | _ => .bad
    | z => z
  | .pickFirst x y t => onTab (φ.lookup t) fun kvs => match kvs with
    | [] => .ok (.next, φ)
    | p :: _ => if x ≠ t ∧ y ≠ t then .ok (.next, upd y (.val (.str p.1) true) (upd x (.val (.str p.1) true) φ)) else .bad
  | .guardAny _ e k T yes => (evIt r φ e).bind fun u => onList u.1 fun ds => (noneV k T yes ds).bind fun _ => .ok (.next, φ)
  | .cont => .ok (.cont, φ)
  | .brk => .ok (.brk, φ)
abbrev Tbl := String → Option (List String × List IS)
noncomputable def fnI (tbl : Tbl) (r : Rec) (f : String) (us : List (V × Bool)) : Res (V × Bool) := match tbl f with
  | some (ps, body) => if ps.length = us.length then (blk r (ps.zip (us.map fun u => .val u.1 u.2)) body).bind fun p => match p.1 with
      | .ret d f => .ok (d, f)
      | .next => .ok (.none, true)
      | _ => .bad
    else .bad
  | none => .bad
noncomputable def fmI (tbl : Tbl) (r : Rec) (f : String) (kvs : List (PySem.Str × V)) (us : List (V × Bool)) : Res ((V × Bool) × List (PySem.Str × V)) := match tbl f with
  | some (p0 :: ps, body) => if ps.length = us.length then
      match blk r ((p0, .tab kvs) :: ps.zip (us.map fun u => .val u.1 u.2)) body with
      | .ok p => match p.2.lookup p0 with
        | some (.tab kvs') => match p.1 with
          | .ret d f => .ok ((d, f), kvs')
          | .next => .ok ((.none, true), kvs')
          | _ => .bad
        | _ => .bad
      | _ => .bad
    else .bad
  | _ => .bad
noncomputable def recN (tbl : Tbl) (consts : String → Option V) : Nat → Rec
  | 0 => ⟨fun _ => false, fun _ _ => .bad, fun _ _ => .bad, fun _ _ => .bad, fun _ _ => .bad, fun _ _ _ => .bad⟩
  | n + 1 => ⟨fun f => (tbl f).isSome, evI consts (recN tbl consts n), tsI (recN tbl consts n), exI (recN tbl consts n), fnI tbl (recN tbl consts n), fmI tbl (recN tbl consts n)⟩
end Mine
end

section
set_option Elab.async false
namespace Mine.L4
open Mine
noncomputable def b_check_name : List IS := [.ite (.not (.tt (.isinst (.var "text") "str"))) [.raise (.const (.str (PySem.Str.ofString "a name must be text")))] [],
  .ite (.or [.cmp .eq (.var "text") (.const (.str (PySem.Str.ofString ""))),
  .cmp .ne (.var "text") (.meth .strip (.var "text") [])]) [.raise (.fstr [.lit (PySem.Str.ofString "a name may not be empty, nor begin or end with a space: "),
  .asc (.var "text")])] [],
  .ite (.cmp .gt (.len (.var "text")) (.glob "MAX_NAME")) [.raise (.fstr [.lit (PySem.Str.ofString "a name may have at most "),
  .fmt (.glob "MAX_NAME"),
  .lit (PySem.Str.ofString " characters")])] [],
  .ite (.not (.tt (.meth .isprintable (.var "text") []))) [.raise (.fstr [.lit (PySem.Str.ofString "a name may hold printable characters only: "),
  .asc (.var "text")])] [],
  .ret (.var "text")]
noncomputable def b_check_number : List IS := [.ite (.or [.not (.tt (.isinst (.var "value") "int")),
  .tt (.isinst (.var "value") "bool")]) [.raise (.const (.str (PySem.Str.ofString "a number must be whole")))] [],
  .ite (.not (.between (.var "lowest") (.var "value") (.glob "MAX_NUMBER"))) [.raise (.fstr [.lit (PySem.Str.ofString "a number must lie between "),
  .fmt (.var "lowest"),
  .lit (PySem.Str.ofString " and "),
  .fmt (.glob "MAX_NUMBER")])] [],
  .ret (.var "value")]
noncomputable def b_parse_number : List IS := [.assign "digits" (.meth .removeprefix (.var "text") [.const (.str (PySem.Str.ofString "-"))]),
  .ite (.not (.and [.tt (.meth .isascii (.var "digits") []),
  .tt (.meth .isdigit (.var "digits") [])])) [.raise (.fstr [.lit (PySem.Str.ofString "not a whole number: "),
  .asc (.upto (.var "text") (.const (.int 40)))])] [],
  .ite (.cmp .gt (.len (.meth .lstrip (.var "digits") [.const (.str (PySem.Str.ofString "0"))])) (.len (.strOf (.glob "MAX_NUMBER")))) [.raise (.fstr [.lit (PySem.Str.ofString "a number must lie between "),
  .fmt (.var "lowest"),
  .lit (PySem.Str.ofString " and "),
  .fmt (.glob "MAX_NUMBER")])] [],
  .assign "value" (.intOf (.orv (.meth .lstrip (.var "digits") [.const (.str (PySem.Str.ofString "0"))]) (.const (.str (PySem.Str.ofString "0"))))),
  .ret (.call "check_number" [.ife (.tt (.meth .startswith (.var "text") [.const (.str (PySem.Str.ofString "-"))])) (.neg (.var "value")) (.var "value"),
  .var "lowest"])]
noncomputable def b_parse_count : List IS := [.ret (.call "parse_number" [.var "text",
  .const (.int 1)])]
noncomputable def b_parse_signed : List IS := [.ret (.call "parse_number" [.var "text",
  .neg (.glob "MAX_NUMBER")])]
noncomputable def b_read_trace : List IS := [.newAcc "ops",
  .forN ["number", "line"] (.enum (.meth .split1 (.var "text") [.const (.str (PySem.Str.ofString "\n"))])) [.assign "words" (.meth .split0 (.var "line") []),
  .ite (.or [.not (.tt (.var "words")),
  .tt (.meth .startswith (.index (.var "words") (.const (.int 0))) [.const (.str (PySem.Str.ofString "#"))])]) [.cont] [],
  .tryLine (.and [.cmp .eq (.index (.var "words") (.const (.int 0))) (.const (.str (PySem.Str.ofString "get"))),
  .cmp .eq (.len (.var "words")) (.const (.int 2))]) "ops" (.tuple [.const (.str (PySem.Str.ofString "get")),
  .call "check_name" [.index (.var "words") (.const (.int 1))],
  .const (.int 0)]) (.and [.cmp .eq (.index (.var "words") (.const (.int 0))) (.const (.str (PySem.Str.ofString "put"))),
  .cmp .eq (.len (.var "words")) (.const (.int 3))]) (.tuple [.const (.str (PySem.Str.ofString "put")),
  .call "check_name" [.index (.var "words") (.const (.int 1))],
  .call "parse_signed" [.index (.var "words") (.const (.int 2))]]) (.const (.str (PySem.Str.ofString "expected 'get KEY' or 'put KEY VALUE'"))) "number"],
  .ret (.var "ops")]
noncomputable def b_cache_get : List IS := [.ite (.cmp .notIn (.var "key") (.var "cache")) [.ret (.const .none)] [],
  .popTo "value" "cache" (.var "key"),
  .setKey "cache" (.var "key") (.var "value"),
  .ret (.var "value")]
noncomputable def b_cache_put_fast : List IS := [.assign "dropped" (.const (.str (PySem.Str.ofString ""))),
  .ite (.cmp .isIn (.var "key") (.var "cache")) [.popKey "cache" (.var "key")] [.ite (.cmp .ge (.len (.var "cache")) (.var "capacity")) [.pickFirst "oldest" "dropped" "cache",
  .delKey "cache" (.var "dropped")] []],
  .setKey "cache" (.var "key") (.var "value"),
  .ret (.var "dropped")]
noncomputable def b_play_cache_fast : List IS := [.newTab "cache",
  .newAcc "gave",
  .for1 "op" (.plain (.var "ops")) [.ite (.cmp .eq (.index (.var "op") (.const (.int 0))) (.const (.str (PySem.Str.ofString "get")))) [.appendMut "gave" "cache_get" "cache" [.index (.var "op") (.const (.int 1))]] [.appendMut "gave" "cache_put_fast" "cache" [.index (.var "op") (.const (.int 1)),
  .index (.var "op") (.const (.int 2)),
  .var "capacity"]]],
  .ret (.tuple [.var "gave",
  .items "cache"])]
noncomputable def b_law_shapes : List IS := [.ret (.list [.const (.str (PySem.Str.ofString "get")),
  .const (.str (PySem.Str.ofString "put")),
  .const (.str (PySem.Str.ofString "get a 1")),
  .const (.str (PySem.Str.ofString "put a")),
  .const (.str (PySem.Str.ofString "put a 1 2")),
  .const (.str (PySem.Str.ofString "pop a")),
  .const (.str (PySem.Str.ofString "GET a")),
  .const (.str (PySem.Str.ofString "set a 1"))])]
noncomputable def b_law_gaps : List IS := [.ret (.list [.const (.str (PySem.Str.ofString " ")),
  .const (.str (PySem.Str.ofString "\t")),
  .const (.str (PySem.Str.ofString "  ")),
  .const (.str (PySem.Str.ofString " \x0c"))])]
noncomputable def b_law_quiet : List IS := [.ret (.list [.const (.str (PySem.Str.ofString "")),
  .const (.str (PySem.Str.ofString " \t")),
  .const (.str (PySem.Str.ofString "\r")),
  .const (.str (PySem.Str.ofString "# get a")),
  .const (.str (PySem.Str.ofString "  #b 1")),
  .const (.str (PySem.Str.ofString "#"))])]
noncomputable def b_law_raw_names : List IS := [.ret (.list [.tuple [.const (.str (PySem.Str.ofString "")),
  .const (.str (PySem.Str.ofString "a name may not be empty, nor begin or end with a space: ''"))],
  .tuple [.const (.str (PySem.Str.ofString " a")),
  .const (.str (PySem.Str.ofString "a name may not be empty, nor begin or end with a space: ' a'"))],
  .tuple [.const (.str (PySem.Str.ofString "a\t")),
  .const (.str (PySem.Str.ofString "a name may not be empty, nor begin or end with a space: 'a\\t'"))],
  .tuple [.const .none,
  .const (.str (PySem.Str.ofString "a name must be text"))],
  .tuple [.const (.int 7),
  .const (.str (PySem.Str.ofString "a name must be text"))],
  .tuple [.const (.str (PySem.Str.ofString "a b")),
  .const (.str (PySem.Str.ofString ""))]])]
noncomputable def b_law_keys : List IS := [.assign "dark" (.const (.str (PySem.Str.ofString "a name may hold printable characters only: "))),
  .ret (.list [.tuple [.const (.str (PySem.Str.ofString "a")),
  .const (.str (PySem.Str.ofString ""))],
  .tuple [.const (.str (PySem.Str.ofString "#c")),
  .const (.str (PySem.Str.ofString ""))],
  .tuple [.const (.str (PySem.Str.ofString "\u00e9")),
  .const (.str (PySem.Str.ofString ""))],
  .tuple [.bin .mul (.const (.str (PySem.Str.ofString "k"))) (.const (.int 200)),
  .const (.str (PySem.Str.ofString ""))],
  .tuple [.bin .mul (.const (.str (PySem.Str.ofString "k"))) (.const (.int 201)),
  .glob "_law_long"],
  .tuple [.bin .add (.bin .mul (.const (.str (PySem.Str.ofString "k"))) (.const (.int 200))) (.const (.str (PySem.Str.ofString "\x07"))),
  .glob "_law_long"],
  .tuple [.const (.str (PySem.Str.ofString "b\x07l")),
  .bin .add (.var "dark") (.const (.str (PySem.Str.ofString "'b\\x07l'")))],
  .tuple [.const (.str (PySem.Str.ofString "\u200b")),
  .bin .add (.var "dark") (.const (.str (PySem.Str.ofString "'\\u200b'")))]])]
noncomputable def b_law_numbers : List IS := [.ret (.list [.tuple [.const (.str (PySem.Str.ofString "1")),
  .const (.int 1),
  .const (.str (PySem.Str.ofString ""))],
  .tuple [.const (.str (PySem.Str.ofString "2")),
  .const (.int 2),
  .const (.str (PySem.Str.ofString ""))],
  .tuple [.bin .add (.bin .mul (.const (.str (PySem.Str.ofString "0"))) (.const (.int 30))) (.const (.str (PySem.Str.ofString "3"))),
  .const (.int 3),
  .const (.str (PySem.Str.ofString ""))],
  .tuple [.const (.str (PySem.Str.ofString "-0")),
  .const (.int 0),
  .const (.str (PySem.Str.ofString ""))],
  .tuple [.const (.str (PySem.Str.ofString "1000000000000000000")),
  .bin .pow (.const (.int 10)) (.const (.int 18)),
  .const (.str (PySem.Str.ofString ""))],
  .tuple [.const (.str (PySem.Str.ofString "1000000000000000001")),
  .bin .add (.bin .pow (.const (.int 10)) (.const (.int 18))) (.const (.int 1)),
  .const (.str (PySem.Str.ofString ""))],
  .tuple [.const (.str (PySem.Str.ofString "-1000000000000000000")),
  .neg (.bin .pow (.const (.int 10)) (.const (.int 18))),
  .const (.str (PySem.Str.ofString ""))],
  .tuple [.const (.str (PySem.Str.ofString "-1000000000000000001")),
  .bin .sub (.neg (.bin .pow (.const (.int 10)) (.const (.int 18)))) (.const (.int 1)),
  .const (.str (PySem.Str.ofString ""))],
  .tuple [.bin .mul (.const (.str (PySem.Str.ofString "9"))) (.const (.int 4400)),
  .bin .pow (.const (.int 10)) (.const (.int 19)),
  .const (.str (PySem.Str.ofString ""))],
  .tuple [.const (.str (PySem.Str.ofString "--5")),
  .const (.int 0),
  .const (.str (PySem.Str.ofString "'--5'"))],
  .tuple [.const (.str (PySem.Str.ofString "\u0663")),
  .const (.int 0),
  .const (.str (PySem.Str.ofString "'\\u0663'"))],
  .tuple [.bin .mul (.const (.str (PySem.Str.ofString "x"))) (.const (.int 50)),
  .const (.int 0),
  .bin .add (.bin .add (.const (.str (PySem.Str.ofString "'"))) (.bin .mul (.const (.str (PySem.Str.ofString "x"))) (.const (.int 40)))) (.const (.str (PySem.Str.ofString "'")))]])]
noncomputable def b_law_number_why : List IS := [.ite (.cmp .ne (.var "shown") (.const (.str (PySem.Str.ofString "")))) [.ret (.bin .add (.const (.str (PySem.Str.ofString "not a whole number: "))) (.var "shown"))] [],
  .ite (.or [.cmp .lt (.var "value") (.var "lowest"),
  .cmp .gt (.var "value") (.bin .pow (.const (.int 10)) (.const (.int 18)))]) [.ret (.bin .add (.bin .add (.const (.str (PySem.Str.ofString "a number must lie between "))) (.strOf (.var "lowest"))) (.const (.str (PySem.Str.ofString " and 1000000000000000000"))))] [],
  .ret (.const (.str (PySem.Str.ofString "")))]
noncomputable def b_law_calm : List IS := [.assign "key" (.index (.const (.str (PySem.Str.ofString "abc"))) (.bin .mod (.var "x") (.const (.int 3)))),
  .assign "value" (.bin .sub (.bin .mod (.var "x") (.const (.int 5))) (.const (.int 2))),
  .assign "gap" (.index (.call "_law_gaps" []) (.bin .mod (.var "x") (.const (.int 4)))),
  .ite (.cmp .lt (.var "kind") (.const (.int 2))) [.ret (.tuple [.bin .add (.bin .add (.const (.str (PySem.Str.ofString "get"))) (.var "gap")) (.var "key"),
  .tuple [.const (.str (PySem.Str.ofString "get")),
  .var "key",
  .const (.int 0)],
  .const (.str (PySem.Str.ofString ""))])] [],
  .ite (.cmp .lt (.var "kind") (.const (.int 5))) [.ret (.tuple [.bin .add (.bin .add (.bin .add (.bin .add (.bin .add (.var "gap") (.const (.str (PySem.Str.ofString "put ")))) (.var "key")) (.var "gap")) (.strOf (.var "value"))) (.const (.str (PySem.Str.ofString "\r"))),
  .tuple [.const (.str (PySem.Str.ofString "put")),
  .var "key",
  .var "value"],
  .const (.str (PySem.Str.ofString ""))])] [],
  .ret (.tuple [.index (.call "_law_quiet" []) (.bin .mod (.var "x") (.const (.int 6))),
  .const .none,
  .const (.str (PySem.Str.ofString ""))])]
noncomputable def b_law_wild : List IS := [.ite (.cmp .gt (.var "kind") (.const (.int 9))) [.ret (.tuple [.index (.call "_law_shapes" []) (.var "place"),
  .const .none,
  .glob "_law_shape"])] [],
  .unpack ["key", "why"] (.index (.call "_law_keys" []) (.var "place")),
  .ite (.cmp .lt (.var "kind") (.const (.int 4))) [.ret (.tuple [.bin .add (.const (.str (PySem.Str.ofString "get "))) (.var "key"),
  .tuple [.const (.str (PySem.Str.ofString "get")),
  .var "key",
  .const (.int 0)],
  .var "why"])] [],
  .unpack ["text", "value", "shown"] (.index (.call "_law_numbers" []) (.var "number")),
  .ite (.cmp .eq (.var "why") (.const (.str (PySem.Str.ofString "")))) [.assign "why" (.call "_law_number_why" [.var "value",
  .var "shown",
  .neg (.bin .pow (.const (.int 10)) (.const (.int 18)))])] [],
  .ret (.tuple [.bin .add (.bin .add (.bin .add (.const (.str (PySem.Str.ofString "put\t"))) (.var "key")) (.const (.str (PySem.Str.ofString "  ")))) (.var "text"),
  .tuple [.const (.str (PySem.Str.ofString "put")),
  .var "key",
  .var "value"],
  .var "why"])]
noncomputable def b_law_first_bad : List IS := [.for1 "i" (.range (.len (.var "lines"))) [.ite (.cmp .ne (.index (.index (.var "lines") (.var "i")) (.const (.int 2))) (.const (.str (PySem.Str.ofString "")))) [.ret (.var "i")] []],
  .ret (.len (.var "lines"))]
noncomputable def b_law_read : List IS := [.assign "text" (.meth .join (.const (.str (PySem.Str.ofString "\n"))) [.comp (.index (.var "line") (.const (.int 0))) "line" (.plain (.var "lines")) none]),
  .assign "ops" (.const .none),
  .assign "why" (.const (.str (PySem.Str.ofString ""))),
  .tryStr "ops" (.call "read_trace" [.var "text"]) "why" "error",
  .ret (.tuple [.var "ops",
  .var "why"])]
noncomputable def b_law_live : List IS := [.newAcc "live",
  .for1 "key" (.rev (.var "touched")) [.ite (.and [.cmp .notIn (.var "key") (.var "live"),
  .cmp .lt (.len (.var "live")) (.var "capacity")]) [.append "live" (.var "key")] []],
  .ret (.var "live")]
noncomputable def b_law_replay : List IS := [.newAcc "touched",
  .newAcc "laid",
  .newAcc "gave",
  .forN ["kind", "key", "value"] (.plain (.var "ops")) [.assign "before" (.call "_law_live" [.var "touched",
  .var "capacity"]),
  .ite (.cmp .eq (.var "kind") (.const (.str (PySem.Str.ofString "put")))) [.append "touched" (.var "key"),
  .append "laid" (.tuple [.var "key",
  .var "value"]),
  .assign "after" (.call "_law_live" [.var "touched",
  .var "capacity"]),
  .append "gave" (.meth .join (.const (.str (PySem.Str.ofString ""))) [.comp (.var "k") "k" (.plain (.var "before")) (some (.cmp .notIn (.var "k") (.var "after")))])] [.ite (.cmp .isIn (.var "key") (.var "before")) [.append "touched" (.var "key"),
  .append "gave" (.index (.dictOf "laid") (.var "key"))] [.append "gave" (.const .none)]]],
  .assign "known" (.dictOf "laid"),
  .ret (.tuple [.var "gave",
  .comp (.tuple [.var "k",
  .index (.var "known") (.var "k")]) "k" (.rev (.call "_law_live" [.var "touched",
  .var "capacity"])) none])]
noncomputable def b_law_gates_hold : List IS := [.unpack ["raw", "due"] (.index (.call "_law_raw_names" []) (.var "which")),
  .assign "got" (.const .none),
  .assign "why" (.const (.str (PySem.Str.ofString ""))),
  .tryStr "got" (.call "check_name" [.var "raw"]) "why" "error",
  .ite (.cmp .ne (.var "why") (.var "due")) [.ret (.const (.bool false))] [],
  .ite (.and [.cmp .eq (.var "due") (.const (.str (PySem.Str.ofString ""))),
  .cmp .ne (.var "got") (.var "raw")]) [.ret (.const (.bool false))] [],
  .assign "raw" (.index (.list [.const (.bool true),
  .const (.bool false),
  .const (.flt 4607182418800017408),
  .const (.str (PySem.Str.ofString "1")),
  .const .none,
  .var "n",
  .var "lowest",
  .bin .sub (.var "lowest") (.const (.int 1)),
  .bin .pow (.const (.int 10)) (.const (.int 18)),
  .bin .add (.bin .pow (.const (.int 10)) (.const (.int 18))) (.const (.int 1))]) (.var "pick")),
  .assign "due" (.const (.str (PySem.Str.ofString "a number must be whole"))),
  .ite (.cmp .gt (.var "pick") (.const (.int 4))) [.assign "due" (.call "_law_number_why" [.var "raw",
  .const (.str (PySem.Str.ofString "")),
  .var "lowest"])] [],
  .assign "got" (.const .none),
  .assign "why" (.const (.str (PySem.Str.ofString ""))),
  .tryStr "got" (.call "check_number" [.var "raw",
  .var "lowest"]) "why" "error",
  .ite (.cmp .ne (.var "why") (.var "due")) [.ret (.const (.bool false))] [],
  .ite (.and [.cmp .eq (.var "due") (.const (.str (PySem.Str.ofString ""))),
  .or [.cmp .ne (.var "got") (.var "raw"),
  .typeIs (.var "got") "int" false]]) [.ret (.const (.bool false))] [],
  .ret (.const (.bool true))]
noncomputable def b_lawA : List IS := [.ite (.cmp .lt (.len (.var "script")) (.const (.int 23))) [.ret (.const (.bool true))] [],
  .ite (.not (.tt (.call "_law_gates_hold" [.bin .mod (.index (.var "script") (.const (.int 0))) (.const (.int 6)),
  .bin .mod (.index (.var "script") (.const (.int 1))) (.const (.int 10)),
  .index (.var "script") (.const (.int 2)),
  .bin .sub (.bin .mod (.index (.var "script") (.const (.int 3))) (.const (.int 5))) (.const (.int 2))]))) [.ret (.const (.bool false))] [],
  .assign "lines" (.list [.call "_law_calm" [.bin .mod (.index (.var "script") (.const (.int 4))) (.const (.int 6)),
  .index (.var "script") (.const (.int 5))],
  .call "_law_calm" [.bin .mod (.index (.var "script") (.const (.int 6))) (.const (.int 6)),
  .index (.var "script") (.const (.int 7))],
  .call "_law_calm" [.bin .mod (.index (.var "script") (.const (.int 8))) (.const (.int 6)),
  .index (.var "script") (.const (.int 9))],
  .call "_law_calm" [.bin .mod (.index (.var "script") (.const (.int 10))) (.const (.int 6)),
  .index (.var "script") (.const (.int 11))],
  .call "_law_calm" [.bin .mod (.index (.var "script") (.const (.int 12))) (.const (.int 6)),
  .index (.var "script") (.const (.int 13))]]),
  .assign "at" (.bin .mod (.index (.var "script") (.const (.int 17))) (.const (.int 6))),
  .assign "lines" (.bin .add (.bin .add (.upto (.var "lines") (.var "at")) (.list [.call "_law_wild" [.bin .mod (.index (.var "script") (.const (.int 14))) (.const (.int 12)),
  .bin .mod (.index (.var "script") (.const (.int 15))) (.const (.int 8)),
  .bin .mod (.index (.var "script") (.const (.int 16))) (.const (.int 12))]])) (.behind (.var "lines") (.var "at"))),
  .assign "at" (.bin .mod (.index (.var "script") (.const (.int 21))) (.const (.int 12))),
  .ite (.cmp .lt (.var "at") (.const (.int 6))) [.assign "lines" (.bin .add (.bin .add (.upto (.var "lines") (.var "at")) (.list [.call "_law_wild" [.bin .mod (.index (.var "script") (.const (.int 18))) (.const (.int 12)),
  .bin .mod (.index (.var "script") (.const (.int 19))) (.const (.int 8)),
  .bin .mod (.index (.var "script") (.const (.int 20))) (.const (.int 12))]])) (.behind (.var "lines") (.var "at")))] [],
  .assign "bad" (.call "_law_first_bad" [.var "lines"]),
  .assign "wanted" (.comp (.index (.var "line") (.const (.int 1))) "line" (.plain (.upto (.var "lines") (.var "bad"))) (some (.isNone (.index (.var "line") (.const (.int 1))) false))),
  .unpack ["ops", "why"] (.call "_law_read" [.var "lines"]),
  .ite (.cmp .lt (.var "bad") (.len (.var "lines"))) [.ite (.cmp .ne (.var "why") (.bin .add (.bin .add (.bin .add (.const (.str (PySem.Str.ofString "line "))) (.strOf (.bin .add (.var "bad") (.const (.int 1))))) (.const (.str (PySem.Str.ofString ": ")))) (.index (.index (.var "lines") (.var "bad")) (.const (.int 2))))) [.ret (.const (.bool false))] [],
  .unpack ["ops", "why"] (.call "_law_read" [.upto (.var "lines") (.var "bad")])] [],
  .ite (.or [.cmp .ne (.var "why") (.const (.str (PySem.Str.ofString ""))),
  .cmp .ne (.var "ops") (.var "wanted")]) [.ret (.const (.bool false))] []]
noncomputable def b_lawB : List IS := [.unpack ["text", "value", "shown"] (.index (.call "_law_numbers" []) (.bin .mod (.index (.var "script") (.const (.int 22))) (.const (.int 12)))),
  .assign "due" (.call "_law_number_why" [.var "value",
  .var "shown",
  .const (.int 1)]),
  .assign "capacity" (.const (.int 2)),
  .assign "why" (.const (.str (PySem.Str.ofString ""))),
  .tryStr "capacity" (.call "parse_count" [.var "text"]) "why" "error",
  .ite (.cmp .ne (.var "why") (.var "due")) [.ret (.const (.bool false))] [],
  .ite (.and [.cmp .eq (.var "due") (.const (.str (PySem.Str.ofString ""))),
  .or [.cmp .ne (.var "capacity") (.var "value"),
  .typeIs (.var "capacity") "int" false]]) [.ret (.const (.bool false))] [],
  .assign "answer" (.call "play_cache_fast" [.var "ops",
  .var "capacity"]),
  .ite (.cmp .ne (.var "answer") (.call "_law_replay" [.var "wanted",
  .var "capacity"])) [.ret (.const (.bool false))] []]
noncomputable def b_lawC : List IS := [.ite (.cmp .ne (.var "ops") (.var "wanted")) [.ret (.const (.bool false))] [],
  .ret (.const (.bool true))]
noncomputable def g_law1 : IS := .guardAny "op" (.var "ops") (some 2) "int" false
noncomputable def g_law2 : IS := .guardAny "part" (.index (.var "answer") (.const (.int 0))) none "bool" true
noncomputable def tblL : List (String × List String × List IS) := [("check_name", ["text"], b_check_name),
  ("check_number", ["value", "lowest"], b_check_number),
  ("parse_number", ["text", "lowest"], b_parse_number),
  ("parse_count", ["text"], b_parse_count),
  ("parse_signed", ["text"], b_parse_signed),
  ("read_trace", ["text"], b_read_trace),
  ("cache_get", ["cache", "key"], b_cache_get),
  ("cache_put_fast", ["cache", "key", "value", "capacity"], b_cache_put_fast),
  ("play_cache_fast", ["ops", "capacity"], b_play_cache_fast),
  ("_law_shapes", [], b_law_shapes),
  ("_law_gaps", [], b_law_gaps),
  ("_law_quiet", [], b_law_quiet),
  ("_law_raw_names", [], b_law_raw_names),
  ("_law_keys", [], b_law_keys),
  ("_law_numbers", [], b_law_numbers),
  ("_law_number_why", ["value", "shown", "lowest"], b_law_number_why),
  ("_law_calm", ["kind", "x"], b_law_calm),
  ("_law_wild", ["kind", "place", "number"], b_law_wild),
  ("_law_first_bad", ["lines"], b_law_first_bad),
  ("_law_read", ["lines"], b_law_read),
  ("_law_live", ["touched", "capacity"], b_law_live),
  ("_law_replay", ["ops", "capacity"], b_law_replay),
  ("_law_gates_hold", ["which", "pick", "n", "lowest"], b_law_gates_hold)]
noncomputable def tbl : Tbl := fun f => tblL.lookup f
noncomputable def conL : List (String × V) := [("MAX_NAME", (.int (200))),
  ("MAX_NUMBER", (.int (1000000000000000000))),
  ("_law_shape", (.str (PySem.Str.ofString "expected 'get KEY' or 'put KEY VALUE'"))),
  ("_law_long", (.str (PySem.Str.ofString "a name may have at most 200 characters")))]
noncomputable def consts : String → Option V := fun x => conL.lookup x
end Mine.L4
end

section
set_option Elab.async false
namespace Mine
open PySem PySem.W PySem.Calls PyProof.Rows

/-! ## what stays -/
noncomputable def Kp (fs Y : List Addr) (h h' : Heap) : Prop := ∀ b o, h.get? b = some o → b ∉ Y → h'.get? b = some o ∨ (b ∈ fs ∧ o.cls = .type "frame" ∧ (∀ vs, o.data ≠ .fields vs) ∧ ∃ sl, h'.get? b = some { o with slots := sl })
section
variable {fs Y Y' : List Addr} {h h' h'' : Heap}
theorem Kp.refl : Kp fs Y h h := fun _ _ e _ => .inl e
theorem Kp.of_keeps (k : ∀ b o, h.get? b = some o → h'.get? b = some o) : Kp fs Y h h' := fun b o e _ => .inl (k b o e)
theorem Kp.of_same {a : Addr} (hs : Heap.SameBut a h h') (ha : a ∈ Y) : Kp fs Y h h' := fun b o e hb => .inl ((hs.2 b fun z => hb (z ▸ ha)).trans e)
theorem Kp.weak (k : Kp fs Y h h') (hY : ∀ b, b ∈ Y → b ∈ Y') : Kp fs Y' h h' := fun b o e hb => k b o e fun z => hb (hY b z)
theorem Kp.trans' (k : Kp fs Y h h') (q : Kp fs Y' h' h'') (hY : ∀ b o, h.get? b = some o → b ∈ Y' → b ∈ Y) : Kp fs Y h h'' := fun b o e hb => by
  rcases k b o e hb with e' | ⟨hm, hf, hn, sl, e'⟩
  · exact q b o e' fun z => hb (hY b o e z)
  · rcases q b _ e' (fun z => hb (hY b o e z)) with e'' | ⟨_, _, _, sl', e''⟩
    · exact .inr ⟨hm, hf, hn, sl, e''⟩
    · exact .inr ⟨hm, hf, hn, sl', e''⟩
theorem Kp.trans (k : Kp fs Y h h') (q : Kp fs Y h' h'') : Kp fs Y h h'' := k.trans' q fun _ _ _ z => z
theorem Kp.same {b : Addr} {o : Obj} (k : Kp fs Y h h') (e : h.get? b = some o) (hb : b ∉ Y) (hc : o.cls ≠ .type "frame") : h'.get? b = some o := by
  rcases k b o e hb with e' | ⟨_, hf, _⟩
  · exact e'
  · exact absurd hf hc
theorem Kp.up {ok : Addr → Prop} (k : Kp fs Y h h') (hk : ∀ b, ok b → b ∉ Y) : UpAt ok h h' := fun _ _ hb e hc => k.same e (hk _ hb) hc.noFrame
theorem Kp.slots (k : Kp fs [] h h') : h.UpToSlots h' := fun b o e _ => by
  rcases k b o e (by simp) with e' | ⟨_, _, _, e'⟩
  · exact ⟨o.slots, e'⟩
  · exact e'
theorem Kp.there {b : Addr} {o : Obj} (k : Kp fs Y h h') (e : h.get? b = some o) (hb : b ∉ Y) : ∃ sl, h'.get? b = some { o with slots := sl } := by
  rcases k b o e hb with e' | ⟨_, _, _, e'⟩
  · exact ⟨o.slots, e'⟩
  · exact e'
end

/-! ## where a def runs -/
structure Cx where
  env : Env
  A : Around
  stk : List Env
noncomputable def Cx.fs (c : Cx) : List Addr := c.stk.filterMap (·.frame)
noncomputable def Cx.own (c : Cx) : List Addr := c.env.locals :: c.env.cells.map (·.2)
structure Cx.Ok (c : Cx) (n : Nat) : Prop where
  kind : c.env.scope.kind = .function
  globals : c.env.globals = mainGlobals
  builtins : c.env.builtins = builtinsNs
  frames : c.A.frames = some c.stk
  handled : c.A.handled = none
  depth : c.A.depth + n < recursionLimit
  units : c.A.units + 8 * n + 200 < cLine
  cells : ∀ x, c.env.scope.names.lookup x = some .cell → ∃ k, c.env.cells.lookup x = some k
theorem Cx.Ok.le {c : Cx} {n m : Nat} (k : c.Ok n) (h : m ≤ n) : c.Ok m := ⟨k.kind, k.globals, k.builtins, k.frames, k.handled, by have := k.depth; omega, by have := k.units; omega, k.cells⟩

abbrev nm (x : String) : PySem.Str := PySem.Str.ofString x
theorem toNat_inj {a b : Char} (h : a.toNat = b.toNat) : a = b := by
  have : a.val = b.val := UInt32.toNat_inj.mp h
  cases a; cases b; simp at this; simp [this]
theorem nm_inj {x y : String} (h : nm x = nm y) : x = y := by
  unfold nm at h
  rw [PySem.Str.ofString_eq_toList, PySem.Str.ofString_eq_toList] at h
  have h1 : (x.toList.map Char.toNat).toArray = (y.toList.map Char.toNat).toArray := by injection h
  have h2 : x.toList.map Char.toNat = y.toList.map Char.toNat := by simpa using h1
  have h3 : x.toList = y.toList := List.map_inj_right (fun a b q => toNat_inj q) |>.mp h2
  exact String.toList_injective h3

/-! ## cells and slots -/
noncomputable def ListAt (h : Heap) (a : Addr) (vs : List Value) : Prop := ∃ o n, h.get? a = some o ∧ o.cls = .type "list" ∧ o.data = .seq vs.toArray n ∧ vs.length ≤ sizeLine
noncomputable def TabAt' (P : Program × World) (ok : Addr → Prop) (h : Heap) (a : Addr) (kvs : List (PySem.Str × V)) : Prop :=
  ∃ ps ds, h.DictOf (strKind P.1 P.2) a ps ∧ (a == sysModules) = false ∧ RA P ok h (ps.map (·.2)) ds ∧ Sz ps ∧ kvs = (ps.map (·.1)).zip ds
theorem ListAt.up {h h' : Heap} {a : Addr} {vs : List Value} (x : ListAt h a vs) (k : ∀ o, h.get? a = some o → o.cls ≠ .type "frame" → h'.get? a = some o) : ListAt h' a vs := by
  obtain ⟨o, n, e, hc, hd, hs⟩ := x
  exact ⟨_, n, k o e (noFrame hc (by decide)), hc, hd, hs⟩
theorem dict_up {P : Program × World} {h h' : Heap} {a : Addr} {ps : List (PySem.Str × Value)} (x : h.DictOf (strKind P.1 P.2) a ps) (k : ∀ o, h.get? a = some o → o.cls ≠ .type "frame" → h'.get? a = some o) : h'.DictOf (strKind P.1 P.2) a ps := by
  obtain ⟨o, ho, hd⟩ := Heap.dictOf_iff.mp x
  have hc : o.cls = .type "dict" := let ⟨_, _, hc, _⟩ := hd; hc.1
  exact Heap.dictOf_iff.mpr ⟨o, k o ho (noFrame hc (by decide)), hd⟩
theorem TabAt'.up {P : Program × World} {ok ok' : Addr → Prop} {h h' : Heap} {a : Addr} {kvs : List (PySem.Str × V)} (x : TabAt' P ok h a kvs) (k : ∀ o, h.get? a = some o → o.cls ≠ .type "frame" → h'.get? a = some o) (ku : UpAt ok h h') (hk : ∀ b, ok b → ok' b) : TabAt' P ok' h' a kvs := by
  obtain ⟨ps, ds, q1, q2, q3, q4, q5⟩ := x
  exact ⟨ps, ds, dict_up q1 k, q2, q3.mono ku fun b _ hb _ => hk b hb, q4, q5⟩
/-- a list of our own, as it was made -/
noncomputable def AccAt (h : Heap) (a : Addr) (vs : List Value) : Prop := h.PlainList a vs.toArray ∧ vs.length ≤ sizeLine
theorem AccAt.up {h h' : Heap} {a : Addr} {vs : List Value} (x : AccAt h a vs) (k : ∀ o, h.get? a = some o → o.cls ≠ .type "frame" → h'.get? a = some o) : AccAt h' a vs := ⟨let ⟨n, e⟩ := x.1; ⟨n, k _ e (noFrame rfl (by decide))⟩, x.2⟩
theorem AccAt.list {h : Heap} {a : Addr} {vs : List Value} (x : AccAt h a vs) : ListAt h a vs := let ⟨n, e⟩ := x.1; ⟨_, n, e, rfl, rfl, x.2⟩
noncomputable def SlotAt (P : Program × World) (E Y : List Addr) (Ω : List (String × Addr)) (h : Heap) (mv : Option Value) (x : String) : Slot → Prop
  | .val d f => ∃ v, mv = some v ∧ R P (fun a => (f = true → a ∉ E) ∧ a ∉ Y) h v d
  | .acc ds => ∃ a vs, Ω.lookup x = some a ∧ mv = some (.ref a) ∧ AccAt h a vs ∧ RA P (fun a => a ∉ E ∧ a ∉ Y) h vs ds
  | .tab kvs => ∃ a, Ω.lookup x = some a ∧ mv = some (.ref a) ∧ TabAt' P (fun a => a ∉ E ∧ a ∉ Y) h a kvs
  | .gone => True
/-- a name of the def's own -/
noncomputable def LName (sc : Scope) (x : String) : Prop := (sc.names.lookup (nm x) = some .local ∨ sc.names.lookup (nm x) = some .cell) ∧ (nm x == ("__debug__" : PySem.Str)) = false ∧ x ≠ ".0"
/-- what the name `x` holds, in the locals or in a cell -/
noncomputable def atName (c : Cx) (m cm : PySem.Str → Option Value) (x : PySem.Str) : Option Value :=
  match c.env.kindOf x with
  | some .local => m x
  | some .cell => cm x
  | some .free => cm x
  | _ => none
noncomputable def Cx.Y (c : Cx) (Ω : List (String × Addr)) : List Addr := c.own ++ Ω.map (·.2)
structure St (P : Program × World) (b0 : Heap) (c : Cx) (E : List Addr) (φ : Frm) (Ω : List (String × Addr)) (h : Heap) : Prop where
  stay : b0.StaysIn h
  ff : h.FunFrames b0 c.stk
  fc : ∀ b ∈ c.fs, ∃ o, h.get? b = some o ∧ o.cls = .type "frame"
  loc : ∃ m cm, h.Ns c.env.locals m ∧ (∀ n k, c.env.cells.lookup n = some k → h.IsCell k (cm n)) ∧ ∀ x sl, φ.lookup x = some sl → LName c.env.scope x → SlotAt P E (c.Y Ω) Ω h (atName c m cm (nm x)) x sl
  alive : ∀ a, a ∈ E ∨ a ∈ c.Y Ω → ∃ o, h.get? a = some o
  off : ∀ a, a ∈ E ∨ a ∈ c.Y Ω → b0.get? a = none

section
variable {P : Program × World} {b0 : Heap} {c : Cx} {E : List Addr} {φ : Frm} {Ω : List (String × Addr)} {h h' : Heap}
theorem stay_kp {fs : List Addr} {l : List Env} (hs : b0.StaysIn h) (hf : h.FunFrames b0 l) (hfs : ∀ b ∈ fs, b ∈ l.filterMap (·.frame)) (k : Kp fs [] h h') : b0.StaysIn h' := fun b o e => by
  rcases k b o (hs b o e) (by simp) with e' | ⟨hm, _⟩
  · exact e'
  · have := (hf.mem (hfs b hm)).1
    rw [e] at this; cases this
theorem ff_kp {fs Y : List Addr} {l : List Env} (hf : h.FunFrames b0 l) (k : Kp fs Y h h') (hY : ∀ b ∈ l.filterMap (·.frame), b ∉ Y) : h'.FunFrames b0 l := by
  induction l with
  | nil => trivial
  | cons e l ih =>
    obtain ⟨h1, ⟨L, o, h2, h3, h4, h5⟩, h6⟩ := hf
    have hL : L ∈ (e :: l).filterMap (·.frame) := List.mem_filterMap.mpr ⟨e, .head _, h2⟩
    obtain ⟨sl, e'⟩ := k.there h4 (hY L hL)
    refine ⟨h1, ⟨L, _, h2, h3, e', h5⟩, ih h6 fun b hb => hY b ?_⟩
    obtain ⟨x, hx, hxb⟩ := List.mem_filterMap.mp hb
    exact List.mem_filterMap.mpr ⟨x, .tail _ hx, hxb⟩
theorem fc_kp {fs Y fs' : List Addr} (hf : ∀ b ∈ fs, ∃ o, h.get? b = some o ∧ o.cls = .type "frame") (k : Kp fs' Y h h') (hY : ∀ b ∈ fs, b ∉ Y) : ∀ b ∈ fs, ∃ o, h'.get? b = some o ∧ o.cls = .type "frame" := fun b hb => by
  obtain ⟨o, e, hc⟩ := hf b hb
  obtain ⟨sl, e'⟩ := k.there e (hY b hb)
  exact ⟨_, e', hc⟩
theorem SlotAt.kp {Y : List Addr} {fs : List Addr} {mv : Option Value} {x : String} {sl : Slot} (s : SlotAt P E Y Ω h mv x sl) (k : Kp fs [] h h') : SlotAt P E Y Ω h' mv x sl := by
  have up : ∀ ok : Addr → Prop, UpAt ok h h' := fun ok => k.up fun _ _ => by simp
  cases sl with
  | val d f => obtain ⟨v, e, r⟩ := s; exact ⟨v, e, r.mono (up _) fun _ _ x _ => x⟩
  | acc ds =>
    obtain ⟨a, vs, h1, h2, h4, h5⟩ := s
    exact ⟨a, vs, h1, h2, h4.up fun o e hc => k.same e (by simp) hc, h5.mono (up _) fun _ _ x _ => x⟩
  | tab kvs =>
    obtain ⟨a, h1, h2, q⟩ := s
    exact ⟨a, h1, h2, q.up (fun o e hc => k.same e (by simp) hc) (up _) fun _ x => x⟩
  | gone => trivial
/-- an expression's work leaves the state as it was -/
theorem St.kp (s : St P b0 c E φ Ω h) (k : Kp c.fs [] h h') : St P b0 c E φ Ω h' := by
  obtain ⟨m, cm, h1, h2, h3⟩ := s.loc
  refine ⟨stay_kp s.stay s.ff (fun _ x => x) k, ff_kp s.ff k (by simp), fc_kp s.fc k (by simp), ⟨m, cm, ?_, fun n j e => ?_, fun x sl e hn => (h3 x sl e hn).kp k⟩, fun a ha => ?_, ?_⟩
  · exact k.slots.ns h1
  · obtain ⟨o, e', hd⟩ := h2 n j e
    obtain ⟨sl, e''⟩ := k.there e' (by simp)
    exact ⟨_, e'', hd⟩
  · obtain ⟨o, e⟩ := s.alive a ha
    obtain ⟨sl, e'⟩ := k.there e (by simp)
    exact ⟨_, e'⟩
  · exact s.off
end
end Mine
end

section
set_option Elab.async false
namespace Mine
open PySem PySem.W PySem.Calls PyProof.Rows

noncomputable def G {α : Type} (res : Res α) (post : α → Prop) (x : Msg → Prop) : Prop := match res with
  | .ok a => post a
  | .exc m => x m
  | .bad => False
theorem G.bind {α β : Type} {res : Res α} {f : α → Res β} {post : β → Prop} {x : Msg → Prop} (h : G (res.bind f) post x) : G res (fun a => G (f a) post x) x := by
  cases res with
  | ok a => exact h
  | exc m => exact h
  | bad => exact h
theorem G.mono {α : Type} {res : Res α} {post post' : α → Prop} {x x' : Msg → Prop} (h : G res post x) (hp : ∀ a, res = .ok a → post a → post' a) (hx : ∀ m, res = .exc m → x m → x' m) : G res post' x' := by
  cases res with
  | ok a => exact hp a rfl h
  | exc m => exact hx m rfl h
  | bad => exact h
theorem G.ite {α : Type} {p : Prop} [Decidable p] {a b : Res α} {post : α → Prop} {x : Msg → Prop} (h : G (if p then a else b) post x) : (p ∧ G a post x) ∨ (¬ p ∧ G b post x) := by
  by_cases q : p
  · rw [if_pos q] at h; exact .inl ⟨q, h⟩
  · rw [if_neg q] at h; exact .inr ⟨q, h⟩
theorem G.need {α : Type} {p : Prop} [Decidable p] {a : Res α} {post : α → Prop} {x : Msg → Prop} (h : G (if p then a else .bad) post x) : p ∧ G a post x := by
  rcases h.ite with h | h
  · exact h
  · exact h.2.elim
theorem G.onO {α β : Type} {o : Option β} {f : β → Res α} {post : α → Prop} {x : Msg → Prop} (h : G (onO o f) post x) : ∃ b, o = some b ∧ G (f b) post x := by
  cases o with
  | none => exact (show False from h).elim
  | some b => exact ⟨b, rfl, h⟩
theorem G.onInt {α : Type} {d : V} {f : Int → Res α} {post : α → Prop} {x : Msg → Prop} (h : G (onInt d f) post x) : ∃ i, d = .int i ∧ G (f i) post x := by
  cases d <;> first | exact ⟨_, rfl, h⟩ | exact (show False from h).elim
theorem G.onStr {α : Type} {d : V} {f : PySem.Str → Res α} {post : α → Prop} {x : Msg → Prop} (h : G (onStr d f) post x) : ∃ i, d = .str i ∧ G (f i) post x := by
  cases d <;> first | exact ⟨_, rfl, h⟩ | exact (show False from h).elim
theorem G.onList {α : Type} {d : V} {f : List V → Res α} {post : α → Prop} {x : Msg → Prop} (h : G (onList d f) post x) : ∃ i, d = .list i ∧ G (f i) post x := by
  cases d <;> first | exact ⟨_, rfl, h⟩ | exact (show False from h).elim
theorem G.onTup {α : Type} {d : V} {f : List V → Res α} {post : α → Prop} {x : Msg → Prop} (h : G (onTup d f) post x) : ∃ i, d = .tuple i ∧ G (f i) post x := by
  cases d <;> first | exact ⟨_, rfl, h⟩ | exact (show False from h).elim
theorem G.onTab {α : Type} {o : Option Slot} {f : List (PySem.Str × V) → Res α} {post : α → Prop} {x : Msg → Prop} (h : G (onTab o f) post x) : ∃ kvs, o = some (.tab kvs) ∧ G (f kvs) post x := by
  cases o with
  | none => exact (show False from h).elim
  | some sl => cases sl <;> first | exact ⟨_, rfl, h⟩ | exact (show False from h).elim
theorem G.onAcc {α : Type} {o : Option Slot} {f : List V → Res α} {post : α → Prop} {x : Msg → Prop} (h : G (onAcc o f) post x) : ∃ ds, o = some (.acc ds) ∧ G (f ds) post x := by
  cases o with
  | none => exact (show False from h).elim
  | some sl => cases sl <;> first | exact ⟨_, rfl, h⟩ | exact (show False from h).elim
theorem G.arg0 {ds : List V} {r : Res V} {post : V → Prop} {x : Msg → Prop} (h : G (arg0 ds r) post x) : ds = [] ∧ G r post x := by
  cases ds with
  | nil => exact ⟨rfl, h⟩
  | cons => exact (show False from h).elim
theorem G.arg1 {ds : List V} {f : V → Res V} {post : V → Prop} {x : Msg → Prop} (h : G (arg1 ds f) post x) : ∃ d, ds = [d] ∧ G (f d) post x := by
  cases ds with
  | nil => exact (show False from h).elim
  | cons d ds => cases ds with
    | nil => exact ⟨d, rfl, h⟩
    | cons => exact (show False from h).elim

/-- a ValueError with this text is on its way up, into the frames `l` -/
structure Fly (l : List Env) (h : Heap) (x : Addr) (msg : Msg) (h' : Heap) : Prop where
  fly : ∃ t tk, Heap.FlyingW (hideAll h (l.filterMap (·.frame))) l x (.type "ValueError") (.ref t) h' ∧ h'.TupAt t [.str msg.1 tk] ∧ (hideAll h (l.filterMap (·.frame))).get? t = none
  up : h.UpToSlots h'
  len : msg.1.length ≤ sizeLine
  ctx : msg.2 = true → ∃ o vs, h'.get? x = some o ∧ o.data = .fields vs ∧ vs[2]? = some .none
section
variable {l : List Env} {h h' h'' : Heap} {x : Addr} {msg : Msg}
theorem Fly.kp (f : Fly l h x msg h') (hd : ∀ b ∈ l.filterMap (·.frame), ∃ o, h.get? b = some o ∧ (∀ vs, o.data ≠ .fields vs)) (fc : ∀ b ∈ l.filterMap (·.frame), ∃ o, h.get? b = some o ∧ o.cls = .type "frame") : Kp (l.filterMap (·.frame)) [] h h' := fun b o e _ => by
  obtain ⟨t, tk, fl, _, _⟩ := f.fly
  by_cases hb : b ∈ l.filterMap (·.frame)
  · obtain ⟨o', e', hd⟩ := hd b hb
    obtain ⟨o'', e'', hc⟩ := fc b hb
    rw [e] at e' e''; cases e'; cases e''
    exact .inr ⟨hb, hc, hd, f.up b o e hd⟩
  · exact .inl (fl.1 b o (hideAll_get _ e hb))
theorem hide_stays {fs : List Addr} (k : Kp fs [] h h') : (hideAll h fs).StaysIn (hideAll h' fs) := fun b o e => by
  have e1 := of_hideAll _ e
  have hb : b ∉ fs := fun z => by rw [hideAll_none _ z] at e; cases e
  rcases k b o e1 (by simp) with e2 | ⟨hm, _⟩
  · exact hideAll_get _ e2 hb
  · exact absurd hm hb
theorem Fly.back (f : Fly l h' x msg h'') (k : Kp (l.filterMap (·.frame)) [] h h') : Fly l h x msg h'' := by
  obtain ⟨t, tk, fl, ht, hn⟩ := f.fly
  exact ⟨⟨t, tk, flyingW_base (hide_stays k) fl, ht, fresh_of_stays (hide_stays k) hn⟩, k.slots.trans f.up, f.len, f.ctx⟩
end

section
variable (P : Program × World) (c : Cx) (E : List Addr) (Ω : List (String × Addr)) (s : Shared)
noncomputable def EvPost (Q : Value → Shared → Prop) (u : V × Bool) : Prop := ∀ v h' tk, Kp c.fs [] s.heap h' → R P (fun a => u.2 = true → a ∉ E ∧ a ∉ c.Y Ω) h' v u.1 → Q v { s with heap := h', toks := tk }
noncomputable def TsPost (Q : Bool → Shared → Prop) (b : Bool) : Prop := ∀ h' tk, Kp c.fs [] s.heap h' → Q b { s with heap := h', toks := tk }
noncomputable def XPost (Ex : Value → Shared → Prop) (m : Msg) : Prop := ∀ x h' tk, Fly c.stk s.heap x m h' → Ex (.ref x) { s with heap := h', toks := tk }
end
section
variable {P : Program × World} {c : Cx} {E : List Addr} {Ω : List (String × Addr)} {s : Shared} {h₁ : Heap} {tk₁ : Nat}
theorem EvPost.step {Q : Value → Shared → Prop} {u : V × Bool} (H : EvPost P c E Ω s Q u) (k : Kp c.fs [] s.heap h₁) : EvPost P c E Ω { s with heap := h₁, toks := tk₁ } Q u :=
  fun v h' tk k' r => H v h' tk (k.trans k') r
theorem TsPost.step {Q : Bool → Shared → Prop} {b : Bool} (H : TsPost c s Q b) (k : Kp c.fs [] s.heap h₁) : TsPost c { s with heap := h₁, toks := tk₁ } Q b :=
  fun h' tk k' => H h' tk (k.trans k')
theorem XPost.step {Ex : Value → Shared → Prop} {m : Msg} (H : XPost c s Ex m) (k : Kp c.fs [] s.heap h₁) : XPost c { s with heap := h₁, toks := tk₁ } Ex m :=
  fun x h' tk f => H x h' tk (f.back k)
theorem EvPost.now {Q : Value → Shared → Prop} {u : V × Bool} {v : Value} {tk : Nat} (H : EvPost P c E Ω s Q u) (r : R P (fun a => u.2 = true → a ∉ E ∧ a ∉ c.Y Ω) s.heap v u.1) : Q v { s with toks := tk } := H v s.heap tk .refl r
theorem EvPost.here {Q : Value → Shared → Prop} {u : V × Bool} {v : Value} (H : EvPost P c E Ω s Q u) (r : R P (fun a => u.2 = true → a ∉ E ∧ a ∉ c.Y Ω) s.heap v u.1) : Q v s := H v s.heap s.toks .refl r
theorem TsPost.here {Q : Bool → Shared → Prop} {b : Bool} (H : TsPost c s Q b) : Q b s := H s.heap s.toks .refl
end
end Mine
end

section
set_option Elab.async false
namespace Mine
open PySem PySem.W PySem.Calls PyProof.Rows

inductive COpB : Operator → BOp → Prop
  | add : COpB .Add .add
  | sub : COpB .Sub .sub
  | mod : COpB .Mod .mod
  | mul : COpB .Mult .mul
  | pow : COpB .Pow .pow
inductive COpC : CmpOp → COp → Prop
  | eq : COpC .Eq .eq
  | ne : COpC .NotEq .ne
  | lt : COpC .Lt .lt
  | gt : COpC .Gt .gt
  | ge : COpC .GtE .ge
  | isIn : COpC .In .isIn
  | notIn : COpC .NotIn .notIn
inductive CMth : String → Nat → Mth → Prop
  | strip : CMth "strip" 0 .strip
  | isprintable : CMth "isprintable" 0 .isprintable
  | isascii : CMth "isascii" 0 .isascii
  | isdigit : CMth "isdigit" 0 .isdigit
  | removeprefix : CMth "removeprefix" 1 .removeprefix
  | lstrip : CMth "lstrip" 1 .lstrip
  | startswith : CMth "startswith" 1 .startswith
  | split0 : CMth "split" 0 .split0
  | split1 : CMth "split" 1 .split1
  | join : CMth "join" 1 .join
/-- a name that the def finds among the globals or the built-ins -/
noncomputable def GName (sc : Scope) (x : String) : Prop := sc.names.lookup (nm x) = some .globalImplicit ∧ (nm x == ("__debug__" : PySem.Str)) = false
noncomputable def relab (cs sc : Scope) : Scope := { cs with names := cs.names.map fun p => if p.2 == .free && sc.names.lookup p.1 == some .cell then (p.1, .cell) else (p.1, p.2) }
structure CompSc (cs sc : Scope) (x : String) : Prop where
  kind : cs.kind = .function
  nocell : ∀ y ∈ cs.names, y.2 ≠ .cell
  names : ∀ y ∈ cs.names, y.2 = .local → cs.names.lookup y.1 = some .local
  var : cs.names.lookup (nm x) = some .local
  free : ∀ y ∈ cs.names, y.2 = .free → sc.names.lookup y.1 = some .cell
  one : ∀ y ∈ cs.names, y.2 = .local → y.1 = nm x ∨ y.1 = nm ".0"
  nodbg : (nm x == ("__debug__" : PySem.Str)) = false
theorem and_ok {a b : Bool} (h : (a && b) = true) : a = true ∧ b = true := by
  cases a <;> cases b <;> first | exact ⟨rfl, rfl⟩ | cases h
noncomputable def lnB (sc : Scope) (x : String) : Bool := decide ((sc.names.lookup (nm x) = some .local ∨ sc.names.lookup (nm x) = some .cell) ∧ (nm x == ("__debug__" : PySem.Str)) = false ∧ x ≠ ".0")
theorem lnB_ok {sc : Scope} {x : String} (h : lnB sc x = true) : LName sc x := by
  unfold lnB at h
  exact of_decide_eq_true (p := _ ∧ _) h
noncomputable def loB (sc : Scope) (x : String) : Bool := decide (sc.names.lookup (nm x) = some .local ∧ (nm x == ("__debug__" : PySem.Str)) = false ∧ x ≠ ".0")
theorem loB_ok {sc : Scope} {x : String} (h : loB sc x = true) : sc.names.lookup (nm x) = some .local ∧ (nm x == ("__debug__" : PySem.Str)) = false ∧ x ≠ ".0" := of_decide_eq_true h
noncomputable def gnB (sc : Scope) (x : String) : Bool := decide (sc.names.lookup (nm x) = some .globalImplicit ∧ (nm x == ("__debug__" : PySem.Str)) = false)
theorem gnB_ok {sc : Scope} {x : String} (h : gnB sc x = true) : GName sc x := by
  unfold gnB at h
  exact of_decide_eq_true (p := _ ∧ _) h
noncomputable def csB (cs sc : Scope) (x : String) : Bool := decide (cs.kind = .function ∧ (∀ y ∈ cs.names, y.2 ≠ .cell) ∧ (∀ y ∈ cs.names, y.2 = .local → cs.names.lookup y.1 = some .local) ∧ cs.names.lookup (nm x) = some .local ∧
  (∀ y ∈ cs.names, y.2 = .free → sc.names.lookup y.1 = some .cell) ∧ (∀ y ∈ cs.names, y.2 = .local → y.1 = nm x ∨ y.1 = nm ".0") ∧ (nm x == ("__debug__" : PySem.Str)) = false)
theorem csB_ok {cs sc : Scope} {x : String} (h : csB cs sc x = true) : CompSc cs sc x := by
  obtain ⟨h1, h2, h3, h4, h5, h6, h7⟩ := of_decide_eq_true h
  exact ⟨h1, h2, h3, h4, h5, h6, h7⟩
noncomputable def opOf : BOp → Operator
  | .add => .Add
  | .sub => .Sub
  | .mod => .Mod
  | .mul => .Mult
  | .pow => .Pow
theorem opOf_ok (p : BOp) : COpB (opOf p) p := by
  cases p
  · exact .add
  · exact .sub
  · exact .mod
  · exact .mul
  · exact .pow
noncomputable def cmOf : COp → CmpOp
  | .eq => .Eq
  | .ne => .NotEq
  | .lt => .Lt
  | .gt => .Gt
  | .ge => .GtE
  | .isIn => .In
  | .notIn => .NotIn
theorem cmOf_ok (p : COp) : COpC (cmOf p) p := by
  cases p
  · exact .eq
  · exact .ne
  · exact .lt
  · exact .gt
  · exact .ge
  · exact .isIn
  · exact .notIn
noncomputable def mthN : Mth → String × Nat
  | .strip => ("strip", 0)
  | .isprintable => ("isprintable", 0)
  | .isascii => ("isascii", 0)
  | .isdigit => ("isdigit", 0)
  | .removeprefix => ("removeprefix", 1)
  | .lstrip => ("lstrip", 1)
  | .startswith => ("startswith", 1)
  | .split0 => ("split", 0)
  | .split1 => ("split", 1)
  | .join => ("join", 1)
theorem mthN_ok (m : Mth) : CMth (mthN m).1 (mthN m).2 m := by
  cases m
  · exact .strip
  · exact .isprintable
  · exact .isascii
  · exact .isdigit
  · exact .removeprefix
  · exact .lstrip
  · exact .startswith
  · exact .split0
  · exact .split1
  · exact .join
noncomputable def baseB : Expr → Bool
  | .Call .. => false
  | _ => true
theorem baseB_ok {o : Expr} {a : PySem.Str} (h : baseB o = true) (env : Env) : attributeBase o a env (eval o env) = eval o env := by
  cases o <;> first | rfl | cases h
noncomputable def testB : Expr → Bool
  | .UnaryOp .. => false
  | .BoolOp .. => false
  | .IfExp .. => false
  | .Compare .. => false
  | _ => true
theorem testB_ok {e : Expr} (h : testB e = true) (env : Env) (whole : Sem Value) : isTrue e env whole = (do let v ← whole; standAt e.pos; holding [v] (truthy v)) := by
  cases e <;> first | rfl | cases h
noncomputable def shortB (x : PySem.Str) : Bool := decide (x.length ≤ 100000)
theorem shortB_ok {x : PySem.Str} (h : shortB x = true) : x.length ≤ sizeLine := by
  have := of_decide_eq_true h
  rw [sizeLine_eq]; exact Nat.le_trans this (by decide)

inductive All2 {α β : Type} (P : α → β → Prop) : List α → List β → Prop
  | nil : All2 P [] []
  | cons {a as b bs} : P a b → All2 P as bs → All2 P (a :: as) (b :: bs)
theorem All2.length {α β : Type} {P : α → β → Prop} {as : List α} {bs : List β} (h : All2 P as bs) : as.length = bs.length := by
  induction h with
  | nil => rfl
  | cons _ _ ih => exact congrArg (· + 1) ih
/-! the text that a small program stands for: the places are taken from the text itself -/
noncomputable def look (e : Expr) : List Expr × Nat × Scope := match e with
  | .BoolOp _ vs _ => (vs, 0, default)
  | .BinOp l _ r _ => ([l, r], 0, default)
  | .UnaryOp _ x _ => ([x], 0, default)
  | .IfExp t a b _ => ([t, a, b], 0, default)
  | .ListComp e gs cs _ => (e :: gs.flatMap fun g => g.target :: g.iter :: g.ifs, 0, cs)
  | .GeneratorExp e gs cs _ => (e :: gs.flatMap fun g => g.target :: g.iter :: g.ifs, 0, cs)
  | .Compare l _ rs _ => (l :: rs, 0, default)
  | .Call f as _ _ => (f :: as, 0, default)
  | .FormattedValue v _ _ _ => ([v], 0, default)
  | .JoinedStr vs _ => (vs, 0, default)
  | .Constant _ k _ => ([], k, default)
  | .Attribute v _ _ => ([v], 0, default)
  | .Subscript v s _ => ([v, s], 0, default)
  | .List es _ => (es, 0, default)
  | .Tuple es k _ => (es, k, default)
  | .Slice a b _ _ => (a.toList ++ b.toList, 0, default)
  | _ => ([], 0, default)
noncomputable def kid (n : Nat) (e : Expr) : Expr := (look e).1.getD n default
noncomputable def args (e : Expr) : List Expr := (look e).1.tail
noncomputable def zipW {α β : Type} [Inhabited α] (f : α → β → α) : List β → List α → List α
  | [], _ => []
  | i :: is, es => f (es.headD default) i :: zipW f is es.tail
noncomputable def zipB {α β : Type} [Inhabited α] (f : α → β → Bool) : List β → List α → Bool
  | [], _ => true
  | i :: is, es => f (es.headD default) i && zipB f is es.tail
theorem zip_len' {α β : Type} [Inhabited α] {f : α → β → α} {is : List β} : ∀ {es : List α}, (zipW f is es).length = is.length := by
  induction is with
  | nil => exact rfl
  | cons i is ih => exact congrArg (· + 1) ih
theorem zip_all {α β : Type} [Inhabited α] {f : α → β → α} {g : α → β → Bool} {P : α → β → Prop} (H : ∀ a i, f a i = a → g a i = true → P a i) {is : List β} : ∀ {es : List α}, zipW f is es = es → zipB g is es = true → All2 P (zipW f is es) is := by
  induction is with
  | nil => exact fun _ _ => .nil
  | cons i is ih =>
    intro es h b
    obtain ⟨b1, b2⟩ := and_ok b
    have h1 : f (es.headD default) i = es.headD default := congrArg (·.headD default) h
    have h2 : zipW f is es.tail = es.tail := congrArg (·.tail) h
    exact .cons (h1.symm ▸ H _ _ h1 b1) (ih h2 b2)
noncomputable def conOf : V → Const
  | .none => .none
  | .bool b => .bool b
  | .int i => .int i
  | .flt x => .float x
  | .str x => .str x
  | _ => .ellipsis
noncomputable def conOk : V → Bool
  | .str x => shortB x
  | .tuple _ => false
  | .list _ => false
  | .dict _ => false
  | _ => true
noncomputable def callN (f : String) (e : Expr) (as : List Expr) : Expr := .Call (.Name (nm f) (kid 0 e).pos) as [] e.pos
/-- x.m(as) -/
noncomputable def callM (x m : String) (e : Expr) (as : List Expr) : Expr := .Call (.Attribute (.Name (nm x) (kid 0 (kid 0 e)).pos) (nm m) (kid 0 e).pos) as [] e.pos
noncomputable def lineM (e : Expr) : Bool := (kid 0 e).pos.endLine == e.pos.line
noncomputable def isW (yes : Bool) : CmpOp := if yes then .Is else .IsNot
mutual
noncomputable def toE : Nat → Expr → IE → Expr
  | 0, e, _ => e
  | n + 1, e, i => match i with
    | .const v => .Constant (conOf v) (look e).2.1 e.pos
    | .var x => .Name (nm x) e.pos
    | .glob x => .Name (nm x) e.pos
    | .bin op a b => .BinOp (toE n (kid 0 e) a) (opOf op) (toE n (kid 1 e) b) e.pos
    | .neg a => .UnaryOp .USub (toE n (kid 0 e) a) e.pos
    | .orv a b => .BoolOp .Or [toE n (kid 0 e) a, toE n (kid 1 e) b] e.pos
    | .ife t a b => .IfExp (toT n (kid 0 e) t) (toE n (kid 1 e) a) (toE n (kid 2 e) b) e.pos
    | .call f is => callN f e (zipW (toE n) is (args e))
    | .len a => callN "len" e [toE n (kid 1 e) a]
    | .strOf a => callN "str" e [toE n (kid 1 e) a]
    | .intOf a => callN "int" e [toE n (kid 1 e) a]
    | .dictOf x => callN "dict" e [.Name (nm x) (kid 1 e).pos]
    | .isinst a T => callN "isinstance" e [toE n (kid 1 e) a, .Name (nm T) (kid 2 e).pos]
    | .meth m a is => .Call (.Attribute (toE n (kid 0 (kid 0 e)) a) (nm (mthN m).1) (kid 0 e).pos) (zipW (toE n) is (args e)) [] e.pos
    | .items x => callN "list" e [callM x "items" (kid 1 e) []]
    | .index a i => .Subscript (toE n (kid 0 e) a) (toE n (kid 1 e) i) e.pos
    | .upto a i => .Subscript (toE n (kid 0 e) a) (.Slice none (some (toE n (kid 0 (kid 1 e)) i)) none (kid 1 e).pos) e.pos
    | .behind a i => .Subscript (toE n (kid 0 e) a) (.Slice (some (toE n (kid 0 (kid 1 e)) i)) none none (kid 1 e).pos) e.pos
    | .list is => .List (zipW (toE n) is (look e).1) e.pos
    | .tuple is => .Tuple (zipW (toE n) is (look e).1) (look e).2.1 e.pos
    | .comp ei x it cond => .ListComp (toE n (kid 0 e) ei) [⟨.Name (nm x) (kid 1 e).pos, toI n (kid 2 e) it, cond.toList.map (toT n (kid 3 e)), 0⟩] (look e).2.2 e.pos
    | .fstr ps => .JoinedStr (zipW (toF n) ps (look e).1) e.pos
noncomputable def toT : Nat → Expr → TE → Expr
  | 0, e, _ => e
  | n + 1, e, t => match t with
    | .tt i => toE n e i
    | .cmp op a b => .Compare (toE n (kid 0 e) a) [cmOf op] [toE n (kid 1 e) b] e.pos
    | .between a b d => .Compare (toE n (kid 0 e) a) [.LtE, .LtE] [toE n (kid 1 e) b, toE n (kid 2 e) d] e.pos
    | .isNone a yes => .Compare (toE n (kid 0 e) a) [isW yes] [.Constant .none (look (kid 1 e)).2.1 (kid 1 e).pos] e.pos
    | .typeIs a T yes => .Compare (callN "type" (kid 0 e) [toE n (kid 1 (kid 0 e)) a]) [isW yes] [.Name (nm T) (kid 1 e).pos] e.pos
    | .not t => .UnaryOp .Not (toT n (kid 0 e) t) e.pos
    | .and ts => .BoolOp .And (zipW (toT n) ts (look e).1) e.pos
    | .or ts => .BoolOp .Or (zipW (toT n) ts (look e).1) e.pos
noncomputable def toI : Nat → Expr → It → Expr
  | 0, e, _ => e
  | n + 1, e, i => match i with
    | .plain i => toE n e i
    | .rev i => callN "reversed" e [toE n (kid 1 e) i]
    | .range i => callN "range" e [toE n (kid 1 e) i]
    | .enum i => callN "enumerate" e [toE n (kid 1 e) i, .Constant (.int 1) (look (kid 2 e)).2.1 (kid 2 e).pos]
noncomputable def toF : Nat → Expr → FP → Expr
  | 0, e, _ => e
  | n + 1, e, p => match p with
    | .lit x => .Constant (.str x) (look e).2.1 e.pos
    | .fmt i => .FormattedValue (toE n (kid 0 e) i) (-1) none e.pos
    | .asc i => .FormattedValue (toE n (kid 0 e) i) 97 none e.pos
end
noncomputable def condB (f : TE → Bool) : Option TE → Bool
  | none => true
  | some t => f t
mutual
noncomputable def okE : Nat → Scope → Expr → IE → Bool
  | 0, _, _, _ => false
  | n + 1, sc, e, i => match i with
    | .const v => conOk v
    | .var x => lnB sc x
    | .glob x => gnB sc x
    | .bin _ a b => okE n sc (kid 0 e) a && okE n sc (kid 1 e) b
    | .neg a => okE n sc (kid 0 e) a
    | .orv a b => okE n sc (kid 0 e) a && okE n sc (kid 1 e) b
    | .ife t a b => okT n sc (kid 0 e) t && (okE n sc (kid 1 e) a && okE n sc (kid 2 e) b)
    | .call f is => gnB sc f && zipB (okE n sc) is (args e)
    | .len a => gnB sc "len" && okE n sc (kid 1 e) a
    | .strOf a => gnB sc "str" && okE n sc (kid 1 e) a
    | .intOf a => gnB sc "int" && okE n sc (kid 1 e) a
    | .dictOf x => gnB sc "dict" && lnB sc x
    | .isinst a T => gnB sc "isinstance" && (gnB sc T && okE n sc (kid 1 e) a)
    | .meth m a is => decide (is.length = (mthN m).2) && (baseB (kid 0 (kid 0 e)) && (lineM e && (okE n sc (kid 0 (kid 0 e)) a && zipB (okE n sc) is (args e))))
    | .items x => gnB sc "list" && (lnB sc x && lineM (kid 1 e))
    | .index a i => okE n sc (kid 0 e) a && okE n sc (kid 1 e) i
    | .upto a i => okE n sc (kid 0 e) a && okE n sc (kid 0 (kid 1 e)) i
    | .behind a i => okE n sc (kid 0 e) a && okE n sc (kid 0 (kid 1 e)) i
    | .list is => zipB (okE n sc) is (look e).1
    | .tuple is => zipB (okE n sc) is (look e).1
    | .comp ei x it cond => csB (look e).2.2 sc x && (okI n sc (kid 2 e) it && (okE n (relab (look e).2.2 sc) (kid 0 e) ei && condB (okT n (relab (look e).2.2 sc) (kid 3 e)) cond))
    | .fstr ps => decide (2 ≤ ps.length) && zipB (okF n sc) ps (look e).1
noncomputable def okT : Nat → Scope → Expr → TE → Bool
  | 0, _, _, _ => false
  | n + 1, sc, e, t => match t with
    | .tt i => testB e && okE n sc e i
    | .cmp _ a b => okE n sc (kid 0 e) a && okE n sc (kid 1 e) b
    | .between a b d => okE n sc (kid 0 e) a && (okE n sc (kid 1 e) b && okE n sc (kid 2 e) d)
    | .isNone a _ => okE n sc (kid 0 e) a
    | .typeIs a T _ => gnB sc "type" && (gnB sc T && (decide (T = "int" ∨ T = "str" ∨ T = "bool") && okE n sc (kid 1 (kid 0 e)) a))
    | .not t => okT n sc (kid 0 e) t
    | .and ts => zipB (okT n sc) ts (look e).1
    | .or ts => zipB (okT n sc) ts (look e).1
noncomputable def okI : Nat → Scope → Expr → It → Bool
  | 0, _, _, _ => false
  | n + 1, sc, e, i => match i with
    | .plain i => okE n sc e i
    | .rev i => gnB sc "reversed" && okE n sc (kid 1 e) i
    | .range i => gnB sc "range" && okE n sc (kid 1 e) i
    | .enum _ => false
noncomputable def okF : Nat → Scope → Expr → FP → Bool
  | 0, _, _, _ => false
  | n + 1, sc, e, p => match p with
    | .lit x => shortB x
    | .fmt i => okE n sc (kid 0 e) i
    | .asc i => okE n sc (kid 0 e) i
end
noncomputable def CE (sc : Scope) (e : Expr) (i : IE) : Prop := ∃ n, toE n e i = e ∧ okE n sc e i = true
noncomputable def CT (sc : Scope) (e : Expr) (i : TE) : Prop := ∃ n, toT n e i = e ∧ okT n sc e i = true
noncomputable def CI (sc : Scope) (e : Expr) (i : It) : Prop := ∃ n, toI n e i = e ∧ okI n sc e i = true
noncomputable def CF (sc : Scope) (e : Expr) (i : FP) : Prop := ∃ n, toF n e i = e ∧ okF n sc e i = true
abbrev CEs (sc : Scope) : List Expr → List IE → Prop := All2 (CE sc)
abbrev CTs (sc : Scope) : List Expr → List TE → Prop := All2 (CT sc)
abbrev CFs (sc : Scope) : List Expr → List FP → Prop := All2 (CF sc)
theorem CE.one {sc : Scope} {e : Expr} {i : IE} (h : CE sc e i) : ∃ n, toE (n + 1) e i = e ∧ okE (n + 1) sc e i = true := by
  obtain ⟨n, h1, h2⟩ := h
  cases n with
  | zero => cases h2
  | succ n => exact ⟨n, h1, h2⟩
theorem CT.one {sc : Scope} {e : Expr} {i : TE} (h : CT sc e i) : ∃ n, toT (n + 1) e i = e ∧ okT (n + 1) sc e i = true := by
  obtain ⟨n, h1, h2⟩ := h
  cases n with
  | zero => cases h2
  | succ n => exact ⟨n, h1, h2⟩
theorem CI.one {sc : Scope} {e : Expr} {i : It} (h : CI sc e i) : ∃ n, toI (n + 1) e i = e ∧ okI (n + 1) sc e i = true := by
  obtain ⟨n, h1, h2⟩ := h
  cases n with
  | zero => cases h2
  | succ n => exact ⟨n, h1, h2⟩
theorem CF.one {sc : Scope} {e : Expr} {i : FP} (h : CF sc e i) : ∃ n, toF (n + 1) e i = e ∧ okF (n + 1) sc e i = true := by
  obtain ⟨n, h1, h2⟩ := h
  cases n with
  | zero => cases h2
  | succ n => exact ⟨n, h1, h2⟩
section
variable {sc : Scope} {e : Expr} {n : Nat}
theorem mkE {i : IE} (h : toE n e i = e) (o : okE n sc e i = true) : CE sc (toE n e i) i := h.symm ▸ ⟨n, h, o⟩
theorem mkT {i : TE} (h : toT n e i = e) (o : okT n sc e i = true) : CT sc (toT n e i) i := h.symm ▸ ⟨n, h, o⟩
theorem mkI {i : It} (h : toI n e i = e) (o : okI n sc e i = true) : CI sc (toI n e i) i := h.symm ▸ ⟨n, h, o⟩
theorem mkEs {es : List Expr} {is : List IE} (h : zipW (toE n) is es = es) (o : zipB (okE n sc) is es = true) : CEs sc (zipW (toE n) is es) is := zip_all (fun _ _ h o => ⟨n, h, o⟩) h o
theorem mkTs {es : List Expr} {is : List TE} (h : zipW (toT n) is es = es) (o : zipB (okT n sc) is es = true) : CTs sc (zipW (toT n) is es) is := zip_all (fun _ _ h o => ⟨n, h, o⟩) h o
theorem mkFs {es : List Expr} {is : List FP} (h : zipW (toF n) is es = es) (o : zipB (okF n sc) is es = true) : CFs sc (zipW (toF n) is es) is := zip_all (fun _ _ h o => ⟨n, h, o⟩) h o
end
/-- no star, no slice, no set, no mark -/
structure PlainE (e : Expr) : Prop where
  star : ∀ rest env, starEach (e :: rest) env = (false, eval e env) :: starEach rest env
  subs : ∀ o v, subscripted e false o v = operate [o, v] (getItem o v)
  noSet : ∀ env v, foldedSetIterable e env v = pure v
  noMark : ∀ op, behindInMarks op e = false
theorem CE.plain {sc : Scope} {e : Expr} {i : IE} (h : CE sc e i) : PlainE e := by
  obtain ⟨n, h, _⟩ := h.one
  rw [← h]
  cases i <;> exact ⟨fun _ _ => rfl, fun _ _ => rfl, fun _ _ => rfl, fun _ => rfl⟩
theorem CE.star {sc : Scope} {e : Expr} {i : IE} (h : CE sc e i) (rest : List Expr) (env : Env) : starEach (e :: rest) env = (false, eval e env) :: starEach rest env := h.plain.star rest env
theorem CE.subs {sc : Scope} {e : Expr} {i : IE} (h : CE sc e i) (o v : Value) : subscripted e false o v = operate [o, v] (getItem o v) := h.plain.subs o v
theorem CE.noSet {sc : Scope} {e : Expr} {i : IE} (h : CE sc e i) (env : Env) (v : Value) : foldedSetIterable e env v = pure v := h.plain.noSet env v
theorem CE.noMark {sc : Scope} {e : Expr} {i : IE} (h : CE sc e i) (op : CmpOp) : behindInMarks op e = false := h.plain.noMark op
theorem CI.noSet {sc : Scope} {e : Expr} {i : It} (h : CI sc e i) (env : Env) (v : Value) : foldedSetIterable e env v = pure v := by
  obtain ⟨n, h, o⟩ := h.one
  cases i with
  | plain i => exact (show CE sc e i from ⟨n, h, o⟩).noSet _ _
  | _ => rw [← h]; rfl
theorem CE.var {sc : Scope} {x : String} {p : Pos} (h : LName sc x) : CE sc (.Name (nm x) p) (.var x) := ⟨1, rfl, decide_eq_true (p := _ ∧ _) h⟩
theorem CEs.add {sc : Scope} {e : Expr} {i : IE} {es : List Expr} {is : List IE} (a : CE sc e i) (b : CEs sc es is) : CEs sc (e :: es) (i :: is) := All2.cons a b
theorem CEs.plain {sc : Scope} {es : List Expr} {is : List IE} (h : CEs sc es is) (env : Env) (p : Pos) : (backTo p (starEach es env)).any (·.1) = false := by
  induction h with
  | nil => rfl
  | cons a _ ih => rw [a.star]; exact ih
end Mine
end

section
set_option Elab.async false
namespace Mine
open PySem PySem.W PySem.Calls PyProof.Rows

/-- what stands at the top, in the base heap -/
structure Stat (P : Program × World) (b0 : Heap) (mg mb : PySem.Str → Option Value) (consts : String → Option V) : Prop where
  g : b0.Ns mainGlobals mg
  b : b0.Ns builtinsNs mb
  nolimit : b0.NoLimit
  bi : ∀ x : PySem.Str, x ≠ "__name__" → mb x = bootBuiltins x
  free : ∀ x ∈ ["len", "str", "int", "list", "dict", "isinstance", "type", "bool", "reversed", "enumerate", "range", "ValueError"], mg (nm x) = none
  con : ∀ x d, consts x = some d → ∃ v, mg (nm x) = some v ∧ R P (fun _ => True) b0 v d

section
variable (prog : Program) (w : World) (b0 : Heap)
noncomputable def SEv (r : Rec) (n : Nat) : Prop := ∀ (c : Cx) (E : List Addr) (φ : Frm) (Ω : List (String × Addr)) (s : Shared) (e : Expr) (i : IE) (Q : Value → Shared → Prop) (Ex : Value → Shared → Prop),
  c.Ok n → St (prog, w) b0 c E φ Ω s.heap → CE c.env.scope e i → G (r.ev φ i) (EvPost (prog, w) c E Ω s Q) (XPost c s Ex) → wpAny (model prog w) c.A (eval e c.env) Q Ex s
noncomputable def STs (r : Rec) (n : Nat) : Prop := ∀ (c : Cx) (E : List Addr) (φ : Frm) (Ω : List (String × Addr)) (s : Shared) (e : Expr) (t : TE) (Q : Bool → Shared → Prop) (Ex : Value → Shared → Prop),
  c.Ok n → St (prog, w) b0 c E φ Ω s.heap → CT c.env.scope e t → G (r.ts φ t) (TsPost c s Q) (XPost c s Ex) → wpAny (model prog w) c.A (isTrue e c.env (eval e c.env)) Q Ex s
end

theorem R.any {P : Program × World} {ok : Addr → Prop} {h : Heap} {v : Value} {d : V} (r : R P ok h v d) : R P (fun _ => True) h v d := r.weak fun _ _ => trivial
theorem R.inv_int {P : Program × World} {ok : Addr → Prop} {h : Heap} {v : Value} {i : Int} (r : R P ok h v (.int i)) : ∃ t, v = .int i t := by cases r; exact ⟨_, rfl⟩
theorem R.inv_str {P : Program × World} {ok : Addr → Prop} {h : Heap} {v : Value} {x : PySem.Str} (r : R P ok h v (.str x)) : ∃ t, v = .str x t ∧ x.length ≤ sizeLine := by cases r; exact ⟨_, rfl, by assumption⟩
theorem R.inv_list {P : Program × World} {ok : Addr → Prop} {h : Heap} {v : Value} {ds : List V} (r : R P ok h v (.list ds)) : ∃ a vs, v = .ref a ∧ ok a ∧ ListAt h a vs ∧ RA P ok h vs ds := by
  cases r with
  | list h0 h1 h2 h3 hs h4 => exact ⟨_, _, rfl, h0, ⟨_, _, h1, h2, h3, hs⟩, h4⟩
theorem R.inv_tuple {P : Program × World} {ok : Addr → Prop} {h : Heap} {v : Value} {ds : List V} (r : R P ok h v (.tuple ds)) : ∃ a vs, v = .ref a ∧ ok a ∧ IsTup h a vs.toArray ∧ vs.length ≤ sizeLine ∧ RA P ok h vs ds := by
  cases r with
  | tuple h0 h1 h2 h3 hs h4 => exact ⟨_, _, rfl, h0, ⟨_, h1, h2, _, h3⟩, hs, h4⟩
theorem ListAt.isList {h : Heap} {a : Addr} {vs : List Value} (x : ListAt h a vs) : h.IsList a vs.toArray := let ⟨o, n, e, hc, hd, _⟩ := x; ⟨o, e, hc, n, hd⟩
theorem R.of_list {P : Program × World} {ok : Addr → Prop} {h : Heap} {a : Addr} {vs : List Value} {ds : List V} (h0 : ok a) (l : ListAt h a vs) (r : RA P ok h vs ds) : R P ok h (.ref a) (.list ds) := let ⟨_, _, e, hc, hd, hs⟩ := l; .list h0 e hc hd hs r
section
variable {α : Type} {P : Program × World} {ok : Addr → Prop} {h : Heap} {v : Value} {d : V} {post : α → Prop} {x : Msg → Prop}
theorem G.rInt {f : Int → Res α} (H : G (Mine.onInt d f) post x) (r : R P ok h v d) : ∃ i t, v = .int i t ∧ G (f i) post x := by
  obtain ⟨i, rfl, H⟩ := H.onInt
  obtain ⟨t, rfl⟩ := r.inv_int
  exact ⟨i, t, rfl, H⟩
theorem G.fz {u : V × Bool} {post : V → Prop} (H : G (fzV u) post x) (r : R P (fun a => u.2 = true → ok a) h v u.1) : R P ok h v u.1 ∧ post u.1 := by
  obtain ⟨q, H⟩ := G.need H
  refine ⟨?_, H⟩
  rcases Bool.or_eq_true_iff.mp q with q | q
  · exact r.weak fun _ x => x q
  · exact r.atom_any q
theorem G.rStr {f : PySem.Str → Res α} (H : G (Mine.onStr d f) post x) (r : R P ok h v d) : ∃ y t, v = .str y t ∧ y.length ≤ sizeLine ∧ G (f y) post x := by
  obtain ⟨i, rfl, H⟩ := H.onStr
  obtain ⟨t, rfl, hx⟩ := r.inv_str
  exact ⟨i, t, rfl, hx, H⟩
theorem G.rList {f : List V → Res α} (H : G (Mine.onList d f) post x) (r : R P ok h v d) : ∃ a vs ds, v = .ref a ∧ ok a ∧ ListAt h a vs ∧ RA P ok h vs ds ∧ G (f ds) post x := by
  obtain ⟨i, rfl, H⟩ := H.onList
  obtain ⟨a, vs, rfl, h0, la, ra⟩ := r.inv_list
  exact ⟨a, vs, i, rfl, h0, la, ra, H⟩
theorem G.rTup {f : List V → Res α} (H : G (Mine.onTup d f) post x) (r : R P ok h v d) : ∃ a vs ds, v = .ref a ∧ ok a ∧ IsTup h a vs.toArray ∧ vs.length ≤ sizeLine ∧ RA P ok h vs ds ∧ G (f ds) post x := by
  obtain ⟨i, rfl, H⟩ := H.onTup
  obtain ⟨a, vs, rfl, h0, la, hs, ra⟩ := r.inv_tuple
  exact ⟨a, vs, i, rfl, h0, la, hs, ra, H⟩
end

inductive RU (P : Program × World) (ok : Addr → Prop) (h : Heap) : List Value → List (V × Bool) → Prop
  | nil : RU P ok h [] []
  | cons {v vs u us} : R P (fun a => u.2 = true → ok a) h v u.1 → RU P ok h vs us → RU P ok h (v :: vs) (u :: us)
theorem RU.up {P : Program × World} {ok : Addr → Prop} {h h' : Heap} {vs us} (r : RU P ok h vs us) (k : UpAt (fun _ => True) h h') : RU P ok h' vs us := by
  induction r with
  | nil => exact .nil
  | cons a _ ih => exact .cons (a.mono (fun b o _ e q => k b o trivial e q) fun _ _ x _ => x) ih
theorem RU.length {P : Program × World} {ok : Addr → Prop} {h : Heap} {vs us} (r : RU P ok h vs us) : vs.length = us.length := by
  induction r with
  | nil => rfl
  | cons _ _ ih => rw [List.length_cons, List.length_cons, ih]

section
variable {prog : Program} {w : World} {b0 : Heap} {mg mb : PySem.Str → Option Value} {consts : String → Option V} {r : Rec} {n : Nat} {c : Cx} {E : List Addr} {φ : Frm} {Ω : List (String × Addr)} {s : Shared} {Q : Value → Shared → Prop} {Ex : Value → Shared → Prop}

theorem ev_none {k p} (H : EvPost (prog, w) c E Ω s Q (.none, true)) : wpAny (model prog w) c.A (eval (.Constant .none k p) c.env) Q Ex s := wpAny_Constant_none (H.here .none)
theorem ev_bool {b k p} (H : EvPost (prog, w) c E Ω s Q (.bool b, true)) : wpAny (model prog w) c.A (eval (.Constant (.bool b) k p) c.env) Q Ex s := wpAny_Constant_bool (H.here (.bool b))
theorem ev_int {i k p} (H : EvPost (prog, w) c E Ω s Q (.int i, true)) : wpAny (model prog w) c.A (eval (.Constant (.int i) k p) c.env) Q Ex s := wpAny_Constant_int (H.now (.int i _))
theorem ev_flt {x k p} (H : EvPost (prog, w) c E Ω s Q (.flt x, true)) : wpAny (model prog w) c.A (eval (.Constant (.float x) k p) c.env) Q Ex s := wpAny_Constant_float (H.now (.flt x _))
theorem ev_str {x k p} (hx : x.length ≤ sizeLine) (H : EvPost (prog, w) c E Ω s Q (.str x, true)) : wpAny (model prog w) c.A (eval (.Constant (.str x) k p) c.env) Q Ex s := wpAny_Constant_str (H.now (.str x _ hx))

/-- a local name is read -/
theorem ld_at {A : Around} {x : String} {p : Pos} {v : Value} {m cm : PySem.Str → Option Value} (ok : c.Ok n) (hn : LName c.env.scope x) (h1 : s.heap.Ns c.env.locals m) (h2 : ∀ n k, c.env.cells.lookup n = some k → s.heap.IsCell k (cm n))
    (hv : atName c m cm (nm x) = some v) (h : Q v s) : wpAny (model prog w) A (eval (.Name (nm x) p) c.env) Q Ex s := by
  refine wpAny_Name ?_ hn.2.1
  rcases hn.1 with hl | hl
  · have e : atName c m cm (nm x) = m (nm x) := by unfold atName Env.kindOf; rw [hl]
    exact wpAny_loadName_local ok.kind hl h1 (e ▸ hv) h
  · have e : atName c m cm (nm x) = cm (nm x) := by unfold atName Env.kindOf; rw [hl]
    obtain ⟨k, hk⟩ := ok.cells _ hl
    have := h2 _ _ hk
    rw [← e, hv] at this
    exact wpAny_loadName_cell ok.kind hl hk this h
theorem ev_var {x : String} {p : Pos} (ok : c.Ok n) (st : St (prog, w) b0 c E φ Ω s.heap) (hn : LName c.env.scope x) (H : G (evI consts r φ (.var x)) (EvPost (prog, w) c E Ω s Q) (XPost c s Ex)) :
    wpAny (model prog w) c.A (eval (.Name (nm x) p) c.env) Q Ex s := by
  obtain ⟨m, cm, h1, h2, h3⟩ := st.loc
  dsimp only [evI] at H
  cases hl : φ.lookup x with
  | none => rw [hl] at H; exact H.elim
  | some sl =>
    rw [hl] at H
    have q := h3 x sl hl hn
    cases sl with
    | val d f =>
      obtain ⟨v, e, rv⟩ := q
      exact ld_at ok hn h1 h2 e (H.here (rv.weak fun a ha hf => ⟨ha.1 hf, ha.2⟩))
    | acc ds =>
      obtain ⟨a, vs, _, e, la, ra⟩ := q
      exact ld_at ok hn h1 h2 e (H.here (.of_list (fun q => (nomatch q)) la.list (ra.weak fun _ _ q => (nomatch q))))
    | tab kvs =>
      obtain ⟨a, _, e, ps, ds, q1, q2, q3, q4, rfl⟩ := q
      exact ld_at ok hn h1 h2 e (H.here (.dict (fun q => (nomatch q)) q1 q2 (q3.weak fun _ _ q => (nomatch q)) q4))
    | gone => exact (show False from H).elim

/-- a name of the top, of the built-ins -/
theorem ld_glob {A : Around} {x : String} {p : Pos} {v : Value} (S : Stat (prog, w) b0 mg mb consts) (ok : c.Ok n) (st : St (prog, w) b0 c E φ Ω s.heap) (hn : GName c.env.scope x) (hv : mg (nm x) = some v) (h : Q v s) :
    wpAny (model prog w) A (eval (.Name (nm x) p) c.env) Q Ex s :=
  Name_function_global ok.kind hn.1 (loadGlobal_global (by rw [ok.globals]; exact S.g.keeps st.stay) hv h) hn.2
theorem ld_boot {A : Around} {x : String} {p : Pos} {v : Value} (S : Stat (prog, w) b0 mg mb consts) (ok : c.Ok n) (st : St (prog, w) b0 c E φ Ω s.heap) (hn : GName c.env.scope x) (hm : mg (nm x) = none) (hv : bootBuiltins (nm x) = some v) (hx : nm x ≠ "__name__") (h : Q v s) :
    wpAny (model prog w) A (eval (.Name (nm x) p) c.env) Q Ex s :=
  Name_function_global ok.kind hn.1 (loadGlobal_builtin (by rw [ok.globals]; exact S.g.keeps st.stay) hm (by rw [ok.builtins]; exact S.b.keeps st.stay) ((S.bi _ hx).trans hv) h) hn.2
theorem ev_glob {x : String} {p : Pos} (S : Stat (prog, w) b0 mg mb consts) (ok : c.Ok n) (st : St (prog, w) b0 c E φ Ω s.heap) (hn : GName c.env.scope x) (H : G (evI consts r φ (.glob x)) (EvPost (prog, w) c E Ω s Q) (XPost c s Ex)) :
    wpAny (model prog w) c.A (eval (.Name (nm x) p) c.env) Q Ex s := by
  obtain ⟨d, hl, H⟩ := G.onO H
  obtain ⟨v, hv, rv⟩ := S.con x d hl
  refine ld_glob S ok st hn hv (EvPost.here H (rv.mono (fun b o _ e _ => st.stay b o e) fun b o _ e _ => ⟨fun z => ?_, fun z => ?_⟩))
  · rw [st.off b (.inl z)] at e; cases e
  · rw [st.off b (.inr z)] at e; cases e

/-- arguments, items: from left to right -/
theorem ev_args (hE : SEv prog w b0 r n) (ok : c.Ok n) {es : List Expr} {is : List IE} {p : Pos} (he : CEs c.env.scope es is) : ∀ {s : Shared} {Q : List Value → Shared → Prop}, St (prog, w) b0 c E φ Ω s.heap →
    G (evs r φ is) (fun us => ∀ vs h' tk, Kp c.fs [] s.heap h' → RU (prog, w) (fun a => a ∉ E ∧ a ∉ c.Y Ω) h' vs us → Q vs { s with heap := h', toks := tk }) (XPost c s Ex) →
    wpAny (model prog w) c.A (spliced (backTo p (starEach es c.env))) Q Ex s := by
  induction he with
  | nil => exact fun _ H => args_nil (H [] _ _ .refl .nil)
  | cons he _ ih =>
    intro s Q st H
    refine args_cons ?_ (CE.star he _ _)
    refine hE c E φ Ω s _ _ _ _ ok st he ((G.bind (res := r.ev φ _) H).mono (fun u _ Hu v h₁ tk₁ k₁ r₁ => ?_) fun _ _ X => X)
    refine ih (s := { s with heap := h₁, toks := tk₁ }) (st.kp k₁) ((G.bind (res := evs r φ _) Hu).mono (fun us _ Hus vs h₂ tk₂ k₂ r₂ => ?_) fun _ _ X => X.step k₁)
    exact Hus _ _ _ (k₁.trans k₂) (.cons (r₁.mono (k₂.up fun _ _ => by simp) fun _ _ x _ => x) r₂)
end
end Mine
end

section
set_option Elab.async false
namespace Mine
open PySem PySem.W PySem.Calls PyProof.Rows

theorem lim_lt : lim ≤ sizeLine := by rw [sizeLine_eq]; decide
theorem len63 {n : Nat} (h : n ≤ sizeLine) : (n : Int) < 2 ^ 63 := by
  rw [sizeLine_eq] at h
  have : (n : Int) ≤ 16777216 := by omega
  exact Int.lt_of_le_of_lt this (by decide)
section
variable {prog : Program} {w : World} {b0 : Heap} {mg mb : PySem.Str → Option Value} {consts : String → Option V} {r : Rec} {n : Nat} {c : Cx} {E : List Addr} {φ : Frm} {Ω : List (String × Addr)} {s : Shared} {Q : Value → Shared → Prop} {Ex : Value → Shared → Prop} {A : Around}

theorem tr {QB : Bool → Shared → Prop} {PT : Bool → Prop} {X : Msg → Prop} {v : Value} {d : V} {P : Program × World} {ok : Addr → Prop} (rv : R P ok s.heap v d) (H : G (truthV d) PT X) (h : ∀ b tk, PT b → QB b { s with toks := tk }) : wpAny (model prog w) A (truthy v) QB Ex s := by
  cases rv with
  | none => exact truthy_none (h _ s.toks H)
  | bool b' => exact wpAny_truthy_bool (h _ s.toks H)
  | int i t => exact truthy_int (h _ s.toks H)
  | str x t hx =>
    refine PySem.P.truthy_str (by have := len63 hx; omega) ?_
    have e : ((x.length : Int) != 0) = (x.length != 0) := by
      cases q : x.length with
      | zero => rfl
      | succ n => simp only [bne]; congr 1
    rw [e]
    exact h _ _ H
  | flt => exact (show False from H).elim
  | tuple => exact (show False from H).elim
  | list h0 h1 h2 h3 hs h4 =>
    rename_i a o vs k ds
    have hL : s.heap.IsList a vs.toArray := ⟨_, h1, h2, k, h3⟩
    have hlen := h4.length
    refine wpAny_truthy_list hL (by rw [List.size_toArray]; exact len63 hs) ?_
    have e : (!vs.toArray.isEmpty) = (!ds.isEmpty) := by
      cases vs with
      | nil => cases ds with
        | nil => rfl
        | cons => cases hlen
      | cons => cases ds with
        | nil => cases hlen
        | cons => rfl
    rw [e]; exact h _ _ H
  | dict => exact (show False from H).elim

theorem ev_neg {x : Expr} {p : Pos} {a : IE} (hE : SEv prog w b0 r n) (ok : c.Ok n) (st : St (prog, w) b0 c E φ Ω s.heap) (ha : CE c.env.scope x a) (H : G (evI consts r φ (.neg a)) (EvPost (prog, w) c E Ω s Q) (XPost c s Ex)) :
    wpAny (model prog w) c.A (eval (.UnaryOp .USub x p) c.env) Q Ex s := by
  dsimp only [evI] at H
  refine wpAny_UnaryOp (hE c E φ Ω s _ _ _ _ ok st ha (H.bind.mono (fun u _ Hu v h₁ tk₁ k₁ r₁ => ?_) fun _ _ X => X))
  obtain ⟨i, t, rfl, Hu⟩ := Hu.rInt r₁
  exact neg_int (Hu _ _ _ k₁ (.int _ _))
theorem ev_orv {x y : Expr} {p : Pos} {a b : IE} (hE : SEv prog w b0 r n) (ok : c.Ok n) (st : St (prog, w) b0 c E φ Ω s.heap) (ha : CE c.env.scope x a) (hb : CE c.env.scope y b)
    (H : G (evI consts r φ (.orv a b)) (EvPost (prog, w) c E Ω s Q) (XPost c s Ex)) :
    wpAny (model prog w) c.A (eval (.BoolOp .Or [x, y] p) c.env) Q Ex s := by
  dsimp only [evI] at H
  refine wpAny_Or2 (hE c E φ Ω s _ _ _ _ ok st ha (H.bind.mono (fun u hu Hu v h₁ tk₁ k₁ r₁ => ?_) fun _ _ X => X))
  refine tr r₁ Hu.bind fun t tk Hu => ?_
  cases t with
  | true => exact (show EvPost (prog, w) c E Ω s Q u from Hu) v h₁ tk k₁ r₁
  | false => exact hE c E φ Ω { s with heap := h₁, toks := tk } _ _ _ _ ok (st.kp k₁) hb (G.mono (res := r.ev φ b) Hu (fun u _ Hu => Hu.step k₁) fun _ _ X => X.step k₁)
theorem ev_ife {t x y : Expr} {p : Pos} {ti : TE} {a b : IE} (hE : SEv prog w b0 r n) (hT : STs prog w b0 r n) (ok : c.Ok n) (st : St (prog, w) b0 c E φ Ω s.heap) (ht : CT c.env.scope t ti) (ha : CE c.env.scope x a) (hb : CE c.env.scope y b)
    (H : G (evI consts r φ (.ife ti a b)) (EvPost (prog, w) c E Ω s Q) (XPost c s Ex)) : wpAny (model prog w) c.A (eval (.IfExp t x y p) c.env) Q Ex s := by
  dsimp only [evI] at H
  refine wpAny_IfExp (hT c E φ Ω s _ _ _ _ ok st ht (H.bind.mono (fun b' _ Hb h₁ tk₁ k₁ => ?_) fun _ _ X => X))
  cases b' with
  | true =>
    have Hb' : G (r.ev φ a) (EvPost (prog, w) c E Ω s Q) (XPost c s Ex) := Hb
    exact hE c E φ Ω { s with heap := h₁, toks := tk₁ } _ _ _ _ ok (st.kp k₁) ha (Hb'.mono (fun u _ Hu => Hu.step k₁) fun _ _ X => X.step k₁)
  | false =>
    have Hb' : G (r.ev φ b) (EvPost (prog, w) c E Ω s Q) (XPost c s Ex) := Hb
    exact hE c E φ Ω { s with heap := h₁, toks := tk₁ } _ _ _ _ ok (st.kp k₁) hb (Hb'.mono (fun u _ Hu => Hu.step k₁) fun _ _ X => X.step k₁)

/-- a new list, a new tuple -/
theorem push_kp {fs Y : List Addr} {h : Heap} (o : Obj) : Kp fs Y h (h.push o) := .of_keeps fun _ _ e => Heap.get?_push_of_some _ e
theorem new_list {P : Program × World} {ok : Addr → Prop} {h : Heap} {vs : List Value} {ds : List V} (h0 : ok h.objs.size) (hs : vs.length ≤ sizeLine) (ra : RA P ok h vs ds) : R P ok (h.push { cls := .type "list", data := .seq vs.toArray }) (.ref h.objs.size) (.list ds) :=
  .list h0 (Heap.get?_push_size _ rfl) rfl rfl hs (ra.mono (fun b o _ e _ => Heap.get?_push_of_some _ e) fun _ _ x _ => x)
theorem new_tuple {P : Program × World} {ok : Addr → Prop} {h : Heap} {vs : List Value} {ds : List V} (h0 : ok h.objs.size) (hs : vs.length ≤ sizeLine) (ra : RA P ok h vs ds) : R P ok (h.push { cls := .type "tuple", data := .seq vs.toArray }) (.ref h.objs.size) (.tuple ds) :=
  .tuple h0 (Heap.get?_push_size _ rfl) rfl rfl hs (ra.mono (fun b o _ e _ => Heap.get?_push_of_some _ e) fun _ _ x _ => x)

/-- nothing of the state lies where the next object will -/
theorem St.next {P : Program × World} {h : Heap} {f : Bool} (st : St P b0 c E φ Ω h) : f = true → h.objs.size ∉ E ∧ h.objs.size ∉ c.Y Ω := fun _ =>
  ⟨fun z => let ⟨_, e⟩ := st.alive _ (.inl z); absurd (Heap.lt_size e) (Nat.lt_irrefl _), fun z => let ⟨_, e⟩ := st.alive _ (.inr z); absurd (Heap.lt_size e) (Nat.lt_irrefl _)⟩
end
end Mine
end

section
set_option Elab.async false
namespace Mine
open PySem PySem.W PySem.Calls PyProof.Rows

section
variable {prog : Program} {w : World} {b0 : Heap} {mg mb : PySem.Str → Option Value} {consts : String → Option V} {r : Rec} {n : Nat} {c : Cx} {E : List Addr} {φ : Frm} {Ω : List (String × Addr)} {s : Shared} {Q : Value → Shared → Prop} {Ex : Value → Shared → Prop} {A : Around}

/-- two lists in one -/
theorem add_l {l b : Addr} {vs ws : List Value} (hl : s.heap.IsList l vs.toArray) (hb : s.heap.IsList b ws.toArray) (hsz : vs.length + ws.length ≤ sizeLine)
    (h : Q (.ref s.heap.objs.size) { s with heap := s.heap.push { cls := .type "list", data := .seq (vs ++ ws).toArray } }) : wpAny (model prog w) A (binaryOp .Add (.ref l) (.ref b)) Q Ex s := by
  obtain ⟨⟨cls, dd, data, sl⟩, ho, hc, n, hd⟩ := id hl
  obtain ⟨⟨cls2, dd2, data2, sl2⟩, ho2, hc2, n2, hd2⟩ := id hb
  simp only at hc hd hc2 hd2
  subst hc hd hc2 hd2
  have e : vs.toArray ++ ws.toArray = (vs ++ ws).toArray := by simp
  refine concat_meets ⟨_, ho, rfl⟩ ⟨_, ho2, rfl⟩ noFill_list_add seq_list_add PySem.F.slot_list_add PySem.F.entry_list_add (PySem.F.args_list_add_2 _ _) (list_addW l b vs.toArray ws.toArray n n2 dd dd2 sl sl2 (by simpa using hsz)) ⟨ho, ho2, ?_⟩
  rw [e]; exact h

theorem add_tup {l b : Addr} {vs ws : List Value} (hl : IsTup s.heap l vs.toArray) (hb : IsTup s.heap b ws.toArray) (hsz : vs.length + ws.length ≤ sizeLine) (n1 : vs.length ≠ 0) (n2 : ws.length ≠ 0)
    (h : Q (.ref s.heap.objs.size) { s with heap := s.heap.push { cls := .type "tuple", data := .seq (vs ++ ws).toArray } }) : wpAny (model prog w) A (binaryOp .Add (.ref l) (.ref b)) Q Ex s := by
  obtain ⟨⟨cls, dd, data, sl⟩, ho, hc, n, hd⟩ := id hl
  obtain ⟨⟨cls2, dd2, data2, sl2⟩, ho2, hc2, n3, hd2⟩ := id hb
  simp only at hc hd hc2 hd2
  subst hc hd hc2 hd2
  have e : vs.toArray ++ ws.toArray = (vs ++ ws).toArray := by simp
  refine concat_meets ⟨_, ho, rfl⟩ ⟨_, ho2, rfl⟩ noFill_tuple_add seq_tuple_add PySem.F.slot_tuple_add PySem.F.entry_tuple_add (PySem.F.args_tuple_add_2 _ _) (tuple_addW2 l b vs.toArray ws.toArray n n3 dd dd2 sl sl2 (by simpa using n1) (by simpa using n2) (by simpa using hsz)) ⟨ho, ho2, ?_⟩
  rw [e]; exact h

theorem mulOk {x : PySem.Str} {k : Int} (h0 : 0 ≤ k) (hk : k ≤ 1000000) (h : x.length * k.toNat ≤ lim) : MulOk x k := by
  have hl := lim_lt
  refine ⟨?_, fun h1 h2 => ?_, fun _ _ => ?_⟩
  · rw [Bool.or_eq_false_iff]; exact ⟨decide_eq_false (by omega), decide_eq_false (by omega)⟩
  · have hn : 0 < k := by omega
    intro hc
    have h3 : (x.length : Int) * k ≤ 1000000 := by
      have : ((x.length * k.toNat : Nat) : Int) ≤ ((lim : Nat) : Int) := by exact_mod_cast h
      rw [Int.natCast_mul, Int.toNat_of_nonneg h0] at this
      exact this
    have h4 : (2 ^ 63 - 1) / k * k ≤ 2 ^ 63 - 1 := Int.ediv_mul_le _ (by omega)
    have h5 : (2 ^ 63 - 1 : Int) < ((2 ^ 63 - 1) / k + 1) * k := Int.lt_ediv_add_one_mul_self _ hn
    have h6 : ((2 ^ 63 - 1) / k + 1) * k ≤ (x.length : Int) * k := Int.mul_le_mul_of_nonneg_right (by omega) h0
    omega
  · exact decide_eq_false (by rw [sizeLine_eq]; have : lim = 1000000 := rfl; omega)
theorem mul_fits {x : PySem.Str} {k : Int} (h0 : 0 ≤ k) (h : x.length * k.toNat ≤ lim) : (Txt.mul x k).length ≤ sizeLine := by
  unfold Txt.mul
  split
  · rw [sizeLine_eq]; decide
  · split
    · rename_i h1 h2
      have : 1 ≤ k.toNat := by omega
      have h3 : x.length * 1 ≤ x.length * k.toNat := Nat.mul_le_mul_left _ this
      have := lim_lt
      omega
    · have e : ∀ (m : Nat) (acc : Array Nat), ((List.replicate m x.cps).foldl (· ++ ·) acc).size = acc.size + m * x.cps.size := by
        intro m
        induction m with
        | zero => intro acc; simp
        | succ m ih => intro acc; rw [List.replicate_succ, List.foldl_cons, ih, Array.size_append, Nat.succ_mul]; omega
      show ((List.replicate k.toNat x.cps).foldl (· ++ ·) #[]).size ≤ sizeLine
      rw [e]
      have h3 : x.cps.size * k.toNat ≤ lim := h
      rw [Nat.mul_comm] at h3
      have := lim_lt
      simp
      omega

theorem bin_sound {o : Operator} {op : BOp} {u v : V × Bool} {va vb : Value} {P : Program × World} {okk : Addr → Prop} {X : Msg → Prop} (ho : COpB o op) (r₁ : R P (fun a => u.2 = true → okk a) s.heap va u.1) (r₂ : R P (fun a => v.2 = true → okk a) s.heap vb v.1)
    (hn : okk s.heap.objs.size) (H : G (binV op u v) (fun d => ∀ v h' tk, (∀ b o, s.heap.get? b = some o → h'.get? b = some o) → R P okk h' v d → Q v { s with heap := h', toks := tk }) X) : wpAny (model prog w) A (binaryOp o va vb) Q Ex s := by
  have hl := lim_lt
  have keep : ∀ (x : Obj) b o, s.heap.get? b = some o → (s.heap.push x).get? b = some o := fun x _ _ e => Heap.get?_push_of_some _ e
  cases ho
  · obtain ⟨d, f⟩ := u
    have r₁ : R P (fun a => f = true → okk a) s.heap va d := r₁
    cases r₁ with
    | none => exact (show False from H).elim
    | bool => exact (show False from H).elim
    | flt => exact (show False from H).elim
    | dict => exact (show False from H).elim
    | int i t =>
      obtain ⟨j, t', rfl, H⟩ := G.rInt H r₂
      exact PySem.P.add_int (H _ _ _ (fun _ _ e => e) (.int _ _))
    | str x t hx =>
      obtain ⟨y, t', rfl, hy, H⟩ := G.rStr H r₂
      obtain ⟨q, H⟩ := G.need H
      exact SB.add (fun t' k' => H _ _ _ (fun _ _ e => e) (.str _ _ (by rw [PySem.Str.length_append]; omega))) (by omega)
    | list h0 h1 h2 h3 hs ra =>
      obtain ⟨tb, ws, es, rfl, h0', lb, rb, H⟩ := G.rList H r₂
      obtain ⟨q, H⟩ := G.need H
      refine add_l ⟨_, h1, h2, _, h3⟩ lb.isList (by rw [ra.length, rb.length]; omega) ?_
      exact H _ _ _ (keep _) (new_list hn (by rw [List.length_append, ra.length, rb.length]; omega) ((ra.weak fun _ x => x q.1.1).append (rb.weak fun _ x => x q.1.2)))
    | tuple h0 h1 h2 h3 hs ra =>
      obtain ⟨tb, ws, es, rfl, h0', lb, _, rb, H⟩ := G.rTup H r₂
      obtain ⟨q, H⟩ := G.need H
      refine add_tup ⟨_, h1, h2, _, h3⟩ lb (by rw [ra.length, rb.length]; omega) (by rw [ra.length]; exact q.2.2.1) (by rw [rb.length]; exact q.2.2.2) ?_
      exact H _ _ _ (keep _) (new_tuple hn (by rw [List.length_append, ra.length, rb.length]; omega) ((ra.weak fun _ x => x q.1.1).append (rb.weak fun _ x => x q.1.2)))
  · obtain ⟨i, t, rfl, H⟩ := G.rInt H r₁
    obtain ⟨j, t', rfl, H⟩ := G.rInt H r₂
    exact PySem.P.sub_int (H _ _ _ (fun _ _ e => e) (.int _ _))
  · obtain ⟨i, t, rfl, H⟩ := G.rInt H r₁
    obtain ⟨j, t', rfl, H⟩ := G.rInt H r₂
    obtain ⟨q, H⟩ := G.need H
    exact mod_int' q (H _ _ _ (fun _ _ e => e) (.int _ _))
  · obtain ⟨y, t, rfl, hx, H⟩ := G.rStr H r₁
    obtain ⟨j, t', rfl, H⟩ := G.rInt H r₂
    obtain ⟨q, H⟩ := G.need H
    exact SB.mul (mulOk q.1 q.2.2 q.2.1) fun t' k' => H _ _ _ (fun _ _ e => e) (.str _ _ (mul_fits q.1 q.2.1))
  · obtain ⟨i, t, rfl, H⟩ := G.rInt H r₁
    obtain ⟨j, t', rfl, H⟩ := G.rInt H r₂
    obtain ⟨q, H⟩ := G.need H
    exact pow_int_small q.1 (by omega) q.2.2 (H _ _ _ (fun _ _ e => e) (.int _ _))
theorem ev_bin {l rr : Expr} {o : Operator} {p : Pos} {op : BOp} {a b : IE} (hE : SEv prog w b0 r n) (ok : c.Ok n) (st : St (prog, w) b0 c E φ Ω s.heap) (ho : COpB o op) (ha : CE c.env.scope l a) (hb : CE c.env.scope rr b)
    (H : G (evI consts r φ (.bin op a b)) (EvPost (prog, w) c E Ω s Q) (XPost c s Ex)) : wpAny (model prog w) c.A (eval (.BinOp l o rr p) c.env) Q Ex s := by
  dsimp only [evI] at H
  refine wpAny_BinOp (hE c E φ Ω s _ _ _ _ ok st ha (H.bind.mono (fun u _ Hu va h₁ tk₁ k₁ r₁ => ?_) fun _ _ X => X))
  refine hE c E φ Ω { s with heap := h₁, toks := tk₁ } _ _ _ _ ok (st.kp k₁) hb (Hu.bind.mono (fun v _ Hv vb h₂ tk₂ k₂ r₂ => ?_) fun _ _ X => X.step k₁)
  have k := k₁.trans k₂
  exact bin_sound (s := { s with heap := h₂, toks := tk₂ }) ho (r₁.mono (k₂.up fun _ _ => by simp) fun _ _ x _ => x) r₂ ((st.kp k).next (f := true) rfl)
    (Hv.bind.mono (fun d _ Hd v h' tk kp rv => (show EvPost (prog, w) c E Ω s Q (d, true) from Hd) v h' tk (k.trans (.of_keeps kp)) (rv.weak fun _ x _ => x)) fun _ _ X => X)
end
end Mine
end

section
set_option Elab.async false
namespace Mine
open PySem PySem.W PySem.Calls PyProof.Rows

section
variable {prog : Program} {w : World} {b0 : Heap} {mg mb : PySem.Str → Option Value} {consts : String → Option V} {r : Rec} {n : Nat} {c : Cx} {E : List Addr} {φ : Frm} {Ω : List (String × Addr)} {s : Shared} {Q : Value → Shared → Prop} {Ex : Value → Shared → Prop} {A : Around}

/-- a built-in function, a type, of one argument -/
theorem call1_b {x : Expr} {a : IE} {nme id : String} {np p : Pos} (S : Stat (prog, w) b0 mg mb consts) (hE : SEv prog w b0 r n) (ok : c.Ok n) (st : St (prog, w) b0 c E φ Ω s.heap) (hn : GName c.env.scope nme) (hm : nme ∈ ["len", "str", "int", "list", "dict", "isinstance", "type", "bool", "reversed", "enumerate", "range", "ValueError"])
    (hv : bootBuiltins (nm nme) = some (.builtin id)) (hx : nm nme ≠ "__name__") (ha : CE c.env.scope x a)
    (H : G (r.ev φ a) (fun u => ∀ v h' tk, Kp c.fs [] s.heap h' → R (prog, w) (fun a => u.2 = true → a ∉ E ∧ a ∉ c.Y Ω) h' v u.1 → wpAny (model prog w) c.A (call (.builtin id) [v]) Q Ex { s with heap := h', toks := tk }) (XPost c s Ex)) :
    wpAny (model prog w) c.A (eval (.Call (.Name (nm nme) np) [x] [] p) c.env) Q Ex s := by
  refine Call_ (ld_boot S ok st hn (S.free _ hm) hv hx (callWith_builtin1 ?_ (ha.star _ _) rfl))
  refine args_cons ?_ (ha.star _ _)
  exact hE c E φ Ω s _ _ _ _ ok st ha (H.mono (fun u _ Hu v h₁ tk₁ k₁ r₁ => args_nil (Hu v h₁ tk₁ k₁ r₁)) fun _ _ X => X)
theorem call1_t {x : Expr} {a : IE} {nme id : String} {np p : Pos} (S : Stat (prog, w) b0 mg mb consts) (hE : SEv prog w b0 r n) (ok : c.Ok n) (st : St (prog, w) b0 c E φ Ω s.heap) (hn : GName c.env.scope nme) (hm : nme ∈ ["len", "str", "int", "list", "dict", "isinstance", "type", "bool", "reversed", "enumerate", "range", "ValueError"])
    (hv : bootBuiltins (nm nme) = some (.type id)) (hx : nm nme ≠ "__name__") (ha : CE c.env.scope x a)
    (H : G (r.ev φ a) (fun u => ∀ v h' tk, Kp c.fs [] s.heap h' → R (prog, w) (fun a => u.2 = true → a ∉ E ∧ a ∉ c.Y Ω) h' v u.1 → wpAny (model prog w) c.A (call (.type id) [v]) Q Ex { s with heap := h', toks := tk }) (XPost c s Ex)) :
    wpAny (model prog w) c.A (eval (.Call (.Name (nm nme) np) [x] [] p) c.env) Q Ex s := by
  refine Call_ (ld_boot S ok st hn (S.free _ hm) hv hx (callWith_type1 ?_ (ha.star _ _) rfl))
  refine args_cons ?_ (ha.star _ _)
  exact hE c E φ Ω s _ _ _ _ ok st ha (H.mono (fun u _ Hu v h₁ tk₁ k₁ r₁ => args_nil (Hu v h₁ tk₁ k₁ r₁)) fun _ _ X => X)
theorem boot_len : bootBuiltins (nm "len") = some (.builtin "len") := by decide +kernel
theorem boot_str : bootBuiltins (nm "str") = some (.type "str") := by decide +kernel
theorem boot_int : bootBuiltins (nm "int") = some (.type "int") := by decide +kernel
theorem boot_bool : bootBuiltins (nm "bool") = some (.type "bool") := by decide +kernel
theorem boot_list : bootBuiltins (nm "list") = some (.type "list") := by decide +kernel
theorem boot_dict : bootBuiltins (nm "dict") = some (.type "dict") := by decide +kernel
theorem boot_range : bootBuiltins (nm "range") = some (.type "range") := by decide +kernel
theorem boot_isi : bootBuiltins (nm "isinstance") = some (.builtin "isinstance") := by decide +kernel
theorem boot_type : bootBuiltins (nm "type") = some (.type "type") := by decide +kernel
theorem boot_rev : bootBuiltins (nm "reversed") = some (.type "reversed") := by decide +kernel
theorem boot_enum : bootBuiltins (nm "enumerate") = some (.type "enumerate") := by decide +kernel
theorem boot_ve : bootBuiltins (nm "ValueError") = some (.type "ValueError") := by decide +kernel

theorem log2_ok {i : Int} (q : i.natAbs < 2 ^ 100) : i.natAbs.log2 < 1920 := by
  by_cases h0 : i.natAbs = 0
  · rw [h0]; decide
  · exact Nat.lt_of_lt_of_le ((Nat.log2_lt h0).mpr q) (by decide)
theorem ev_strOf {x : Expr} {a : IE} {np p : Pos} (S : Stat (prog, w) b0 mg mb consts) (hE : SEv prog w b0 r n) (ok : c.Ok n) (st : St (prog, w) b0 c E φ Ω s.heap) (hn : GName c.env.scope "str") (ha : CE c.env.scope x a)
    (H : G (evI consts r φ (.strOf a)) (EvPost (prog, w) c E Ω s Q) (XPost c s Ex)) : wpAny (model prog w) c.A (eval (.Call (.Name (nm "str") np) [x] [] p) c.env) Q Ex s := by
  dsimp only [evI] at H
  refine call1_t S hE ok st hn (by decide) boot_str (by decide) ha (H.bind.mono (fun u _ Hu v h₁ tk₁ k₁ r₁ => ?_) fun _ _ X => X)
  obtain ⟨d, f⟩ := u
  cases d <;> first | exact (show False from Hu).elim | skip
  · rename_i i _
    rcases G.ite (show G (if i.natAbs < 2 ^ 100 then Res.ok (V.str (PySem.Str.ofString (toString i)), true) else Res.bad) _ _ from Hu) with ⟨q, Hq⟩ | ⟨_, Hq⟩
    · obtain ⟨t, rfl⟩ := r₁.inv_int
      exact PySem.P.str_of_int (log2_ok q) ((show EvPost (prog, w) c E Ω s Q _ from Hq) _ _ _ k₁ (.str _ _ (int_text_fits (log2_ok q))))
    · exact Hq.elim
  · obtain ⟨t, rfl, hx⟩ := r₁.inv_str
    exact PySem.P.str_of_str ((show EvPost (prog, w) c E Ω s Q _ from Hu) _ _ _ k₁ (.str _ _ hx))
theorem ev_intOf {x : Expr} {a : IE} {np p : Pos} (S : Stat (prog, w) b0 mg mb consts) (hE : SEv prog w b0 r n) (ok : c.Ok n) (st : St (prog, w) b0 c E φ Ω s.heap) (hn : GName c.env.scope "int") (ha : CE c.env.scope x a)
    (H : G (evI consts r φ (.intOf a)) (EvPost (prog, w) c E Ω s Q) (XPost c s Ex)) : wpAny (model prog w) c.A (eval (.Call (.Name (nm "int") np) [x] [] p) c.env) Q Ex s := by
  dsimp only [evI] at H
  refine call1_t S hE ok st hn (by decide) boot_int (by decide) ha (H.bind.mono (fun u _ Hu v h₁ tk₁ k₁ r₁ => ?_) fun _ _ X => X)
  obtain ⟨y, t, rfl, hx, Hu⟩ := Hu.rStr r₁
  obtain ⟨q, Hu⟩ := G.need Hu
  obtain ⟨k, hi, Hu⟩ := G.onO Hu
  exact KIN.call_text hi q (Hu _ _ _ k₁ (.int _ _))
theorem G.typeV {d : V} {P : Program × World} {okk : Addr → Prop} {h : Heap} {v : Value} {post : String → Prop} {X : Msg → Prop} (H : G (typeV d) post X) (r : R P okk h v d) : (v = .none ∧ post "NoneType") ∨ (∃ b, v = .bool b ∧ post "bool") ∨ (∃ i t, v = .int i t ∧ post "int") ∨ (∃ x t, v = .str x t ∧ post "str") ∨ (∃ x t, v = .float x t ∧ post "float") := by
  cases r with
  | none => exact .inl ⟨rfl, H⟩
  | bool b => exact .inr (.inl ⟨b, rfl, H⟩)
  | int i t => exact .inr (.inr (.inl ⟨i, t, rfl, H⟩))
  | str x t _ => exact .inr (.inr (.inr (.inl ⟨x, t, rfl, H⟩)))
  | flt x t => exact .inr (.inr (.inr (.inr ⟨x, t, rfl, H⟩)))
  | tuple => exact (show False from H).elim
  | list => exact (show False from H).elim
  | dict => exact (show False from H).elim
theorem inst_T {d : V} {T : String} {post : Bool → Prop} {X : Msg → Prop} (H : G (instV d T) post X) : T = "str" ∨ T = "int" ∨ T = "bool" := by
  have H := G.bind H
  cases d <;> first | exact (show False from H).elim | exact (G.need H).1
theorem inst_sound {d : V} {v : Value} {T : String} {P : Program × World} {okk : Addr → Prop} {X : Msg → Prop} (r₁ : R P okk s.heap v d) (H : G (instV d T) (fun b => ∀ tk, Q (.bool b) { s with toks := tk }) X) : wpAny (model prog w) A (call (.builtin "isinstance") [v, .type T]) Q Ex s := by
  have hT := inst_T H
  have H := G.bind H
  rcases H.typeV r₁ with ⟨rfl, H⟩ | ⟨b, rfl, H⟩ | ⟨i, t, rfl, H⟩ | ⟨x, t, rfl, H⟩ | ⟨x, t, rfl, H⟩ <;> (replace H := (G.need H).2; rcases hT with rfl | rfl | rfl)
  · exact IsiPair.NoneType_str (H _)
  · exact IsiPair.NoneType_int (H _)
  · exact IsiPair.NoneType_bool (H _)
  · exact IsiPair.bool_str (H _)
  · exact IsiPair.bool_int (H _)
  · exact IsiPair.bool_bool (H _)
  · exact IsiPair.int_str (H _)
  · exact IsiPair.int_int (H _)
  · exact IsiPair.int_bool (H _)
  · exact IsiPair.str_str (H _)
  · exact IsiPair.str_int (H _)
  · exact IsiPair.str_bool (H _)
  · exact IsiPair.float_str (H _)
  · exact IsiPair.float_int (H _)
  · exact IsiPair.float_bool (H _)
theorem ev_isinst {x : Expr} {a : IE} {T : String} {np tp p : Pos} (S : Stat (prog, w) b0 mg mb consts) (hE : SEv prog w b0 r n) (ok : c.Ok n) (st : St (prog, w) b0 c E φ Ω s.heap) (hn : GName c.env.scope "isinstance") (hT : GName c.env.scope T) (ha : CE c.env.scope x a)
    (H : G (evI consts r φ (.isinst a T)) (EvPost (prog, w) c E Ω s Q) (XPost c s Ex)) : wpAny (model prog w) c.A (eval (.Call (.Name (nm "isinstance") np) [x, .Name (nm T) tp] [] p) c.env) Q Ex s := by
  dsimp only [evI] at H
  refine Call_ (ld_boot S ok st hn (S.free _ (by decide)) boot_isi (by decide) (callWith_builtin1 ?_ (ha.star _ _) rfl))
  refine args_cons ?_ (ha.star _ _)
  refine hE c E φ Ω s _ _ _ _ ok st ha (H.bind.mono (fun u _ Hu v h₁ tk₁ k₁ r₁ => ?_) fun _ _ X => X)
  have go : mg (nm T) = none → bootBuiltins (nm T) = some (.type T) → nm T ≠ "__name__" → wpAny (model prog w) c.A (spliced (backTo p (starEach [.Name (nm T) tp] c.env))) (fun vs s₂ => wpAny (model prog w) c.A (call (.builtin "isinstance") (v :: vs)) Q Ex s₂) Ex { s with heap := h₁, toks := tk₁ } := by
    intro g1 g2 g3
    refine args_cons (ld_boot S ok (st.kp k₁) hT g1 g2 g3 (args_nil ?_)) rfl
    exact inst_sound (s := { s with heap := h₁, toks := tk₁ }) r₁ (Hu.bind.mono (fun b _ Hb tk => (show EvPost (prog, w) c E Ω s Q (.bool b, true) from Hb) _ _ _ k₁ (.bool b)) fun _ _ X => X)
  rcases inst_T Hu.bind with rfl | rfl | rfl
  · exact go (S.free _ (by decide)) boot_str (by decide)
  · exact go (S.free _ (by decide)) boot_int (by decide)
  · exact go (S.free _ (by decide)) boot_bool (by decide)
end
end Mine
end

section
set_option Elab.async false
namespace Mine
open PySem PySem.W PySem.Calls PyProof.Rows

section
variable {prog : Program} {w : World} {b0 : Heap} {mg mb : PySem.Str → Option Value} {consts : String → Option V} {r : Rec} {n : Nat} {c : Cx} {E : List Addr} {φ : Frm} {Ω : List (String × Addr)} {s : Shared} {Q : Value → Shared → Prop} {Ex : Value → Shared → Prop} {A : Around}

theorem seq_idx {k : Int} {m : Nat} (h0 : 0 ≤ k) (h : k.toNat < m) : seqIndex? k m = some k.toNat := by
  unfold seqIndex?
  split <;> first | omega | skip
  all_goals simp_all
  all_goals omega
/-- an item by its place -/
theorem at_sound {e : V} {i : Value} {ds : List V} {vs : List Value} {P : Program × World} {okk okk' : Addr → Prop} {PV : V → Prop} {X : Msg → Prop} {W : Prop} (H : G (atV ds e) PV X) (r₂ : R P okk' s.heap i e) (ra : RA P okk s.heap vs ds)
    (h : ∀ k t v' d, i = .int k t → 0 ≤ k → k.toNat < vs.length → vs[k.toNat]? = some v' → R P okk s.heap v' d → PV d → W) : W := by
  obtain ⟨k, t, rfl, H⟩ := G.rInt H r₂
  obtain ⟨q, H⟩ := G.need H
  obtain ⟨d, hd, H⟩ := G.onO H
  obtain ⟨v', hv, rv⟩ := ra.get hd
  exact h k t v' d rfl q (List.getElem?_eq_some_iff.mp hv).1 hv rv H
theorem fz_all {us : List (V × Bool)} {vs : List Value} {P : Program × World} {okk : Addr → Prop} {h : Heap} {PL : List V → Prop} {X : Msg → Prop} (ru : RU P okk h vs us) (H : G (fzs us) PL X) : ∃ ds, RA P okk h vs ds ∧ PL ds := by
  induction ru generalizing PL with
  | nil => exact ⟨[], .nil, H⟩
  | cons ra _ ih =>
    rename_i u us _
    have H := G.bind (show G ((fzV u).bind fun d => (fzs us).bind fun ds => .ok (d :: ds)) PL X from H)
    obtain ⟨ra, H⟩ := H.fz ra
    obtain ⟨ds, rds, H⟩ := ih (G.bind H)
    exact ⟨_ :: ds, .cons ra rds, H⟩
theorem ev_list {es : List Expr} {is : List IE} {p : Pos} (hE : SEv prog w b0 r n) (ok : c.Ok n) (st : St (prog, w) b0 c E φ Ω s.heap) (he : CEs c.env.scope es is) (H : G (evI consts r φ (.list is)) (EvPost (prog, w) c E Ω s Q) (XPost c s Ex)) :
    wpAny (model prog w) c.A (eval (.List es p) c.env) Q Ex s := by
  dsimp only [evI] at H
  refine List_ (ev_args hE ok he st (H.bind.mono (fun us _ Hu vs h' tk k ru => ?_) fun _ _ X => X))
  obtain ⟨ds, ra, Hu⟩ := fz_all ru Hu.bind
  obtain ⟨q, Hq⟩ := G.need Hu
  have hsz : vs.length ≤ sizeLine := by have := lim_lt; rw [ra.length]; omega
  exact wpAny_newList ((show EvPost (prog, w) c E Ω s Q _ from Hq) _ _ _ (k.trans (push_kp _)) ((new_list ((st.kp k).next (f := true) rfl) hsz ra).weak fun _ x _ => x)) hsz
theorem ru_all {P : Program × World} {okk : Addr → Prop} {h : Heap} {vs us} (ru : RU P okk h vs us) : RA P (fun a => (us.all fun u => u.2 || u.1.atom) = true → okk a) h vs (us.map (·.1)) := by
  induction ru with
  | nil => exact .nil
  | cons ra _ ih =>
    rename_i v vs u us _
    refine .cons ?_ (ih.weak fun a x q => x (by rw [List.all_cons, Bool.and_eq_true] at q; exact q.2))
    cases hf : (u.2 || u.1.atom) with
    | true =>
      rcases Bool.or_eq_true_iff.mp hf with q | q
      · exact ra.weak fun _ x _ => x q
      · exact ra.atom_any q
    | false => exact ra.weak fun _ _ q => by rw [List.all_cons, hf] at q; cases q
theorem ev_tuple {es : List Expr} {is : List IE} {k : Nat} {p : Pos} (hE : SEv prog w b0 r n) (ok : c.Ok n) (st : St (prog, w) b0 c E φ Ω s.heap) (he : CEs c.env.scope es is) (H : G (evI consts r φ (.tuple is)) (EvPost (prog, w) c E Ω s Q) (XPost c s Ex)) :
    wpAny (model prog w) c.A (eval (.Tuple es k p) c.env) Q Ex s := by
  dsimp only [evI] at H
  refine Tuple_ (ev_args hE ok he st (H.bind.mono (fun us _ Hu vs h' tk k ru => ?_) fun _ _ X => X))
  rcases G.ite (show G (if us.length ≤ lim then Res.ok (V.tuple (us.map (·.1)), us.all fun u => u.2 || u.1.atom) else Res.bad) _ _ from Hu) with ⟨q, Hq⟩ | ⟨_, Hq⟩
  · have hsz : vs.length ≤ sizeLine := by have := lim_lt; rw [ru.length]; omega
    exact wpAny_newTuple ((show EvPost (prog, w) c E Ω s Q _ from Hq) _ _ _ (k.trans (push_kp _)) (new_tuple ((st.kp k).next) hsz (ru_all ru))) hsz
  · exact Hq.elim

theorem tail_from {vs : List Value} {m : Int} (h0 : 0 ≤ m) : slicePick vs.toArray (some m) none none = (vs.drop m.toNat).toArray := by
  have := slicePick_from' vs.toArray m.toNat
  rw [Int.toNat_of_nonneg h0] at this
  simpa using this
theorem head_upto {vs : List Value} {m : Int} (h0 : 0 ≤ m) : slicePick vs.toArray none (some m) none = (vs.take m.toNat).toArray := by
  have := slicePick_upto' vs.toArray m.toNat
  rw [Int.toNat_of_nonneg h0] at this
  simpa using this
/-- a part of a list -/
theorem cut_list {value slice : Expr} {ad : Addr} {vs ws : List Value} {es : List V} {vl vu : Value} {lo hi : Option Int} {h₂ : Heap} {tk₂ : Nat} (st : St (prog, w) b0 c E φ Ω s.heap) (k : Kp c.fs [] s.heap h₂) (la : ListAt h₂ ad vs) (pl : IsPart vl lo) (pu : IsPart vu hi) (e : slicePick vs.toArray lo hi none = ws.toArray) (hw : ws.length ≤ vs.length)
    (ra : RA (prog, w) (fun a => a ∉ E ∧ a ∉ c.Y Ω) h₂ ws es) (hs : subscripted slice false (.ref ad) (.ref h₂.objs.size) = operate [.ref h₂.objs.size, .ref ad] (getItem (.ref ad) (.ref h₂.objs.size))) (H : EvPost (prog, w) c E Ω s Q (.list es, true)) :
    wpAny (model prog w) c.A (subscriptTail value slice (.ref ad) (.ref h₂.objs.size)) Q Ex { s with heap := h₂.push { cls := .type "slice", data := .fields #[vl, vu, .none] }, toks := tk₂ } := by
  have kb : ∀ b o, h₂.get? b = some o → (h₂.push { cls := .type "slice", data := .fields #[vl, vu, .none] }).get? b = some o := fun _ _ e => Heap.get?_push_of_some _ e
  have hsl := Heap.IsSliceOf.new h₂ vl vu .none
  generalize hh : h₂.push { cls := .type "slice", data := .fields #[vl, vu, .none] } = h₃ at kb hsl
  have la' : ListAt h₃ ad vs := la.up fun o e _ => kb _ _ e
  obtain ⟨_, _, _, _, _, hsz⟩ := id la'
  have ks : Kp c.fs [] s.heap h₃ := k.trans (.of_keeps kb)
  refine tail_any la'.isList.typeIs slot_list_getitem.lookup (wpAny_getItem_list_slice (s := { s with heap := h₃, toks := tk₂ }) la'.isList hsl pl pu .none (by decide) ?_ (by rw [List.size_toArray]; exact hsz)) hs
  rw [e]
  exact H _ _ _ (ks.trans (push_kp _)) ((new_list ((st.kp ks).next (f := true) rfl) (Nat.le_trans hw hsz) (ra.mono (fun b o _ e _ => kb b o e) fun _ _ x _ => x)).weak fun _ x _ => x)
theorem ev_upto {v u : Expr} {a i : IE} {sp p : Pos} (hE : SEv prog w b0 r n) (ok : c.Ok n) (st : St (prog, w) b0 c E φ Ω s.heap) (ha : CE c.env.scope v a) (hi : CE c.env.scope u i) (H : G (evI consts r φ (.upto a i)) (EvPost (prog, w) c E Ω s Q) (XPost c s Ex)) :
    wpAny (model prog w) c.A (eval (.Subscript v (.Slice none (some u) none sp) p) c.env) Q Ex s := by
  dsimp only [evI] at H
  refine Subscript_ (hE c E φ Ω s _ _ _ _ ok st ha (H.bind.mono (fun d _ Hd va h₁ tk₁ k₁ r₁ => ?_) fun _ _ X => X))
  refine wpAny_Slice (wpAny_evalPart_none (wpAny_evalPart_some ?_))
  refine hE c E φ Ω { s with heap := h₁, toks := tk₁ } _ _ _ _ ok (st.kp k₁) hi (Hd.bind.mono (fun e _ He vi h₂ tk₂ k₂ r₂ => wpAny_evalPart_none ?_) fun _ _ X => X.step k₁)
  have k := k₁.trans k₂
  have r₁' := r₁.mono (k₂.up fun _ _ => by simp) fun _ _ x _ => x
  obtain ⟨m, t, rfl, He⟩ := G.rInt He r₂
  obtain ⟨d, f⟩ := d
  cases d <;> first | exact (show False from He).elim | skip
  · rename_i x _ _
    obtain ⟨q, Hq⟩ := G.need (p := 0 ≤ m ∧ m < 2 ^ 60) He
    obtain ⟨t', rfl, hx⟩ := r₁'.inv_str
    obtain ⟨T, id, hl, hT, hg⟩ := SBH.sliceItem_ns (prog := prog) (w := w) (A := c.A) (E := Ex) (s := { s with heap := h₂, toks := tk₂ }) (x := x) (t := t') (j := m) (uj := t) (P := fun h' => Kp c.fs [] s.heap h') (fun h ob kh => kh.trans (push_kp _)) k
      (fun h' t' k' kh => (show EvPost (prog, w) c E Ω s Q _ from Hq) _ _ _ kh (.str _ _ (Nat.le_trans (Txt.slice_le _ _ _) hx))) hx
    exact tail_any hT hl hg rfl
  · rename_i ds _ _
    obtain ⟨q, Hq⟩ := G.need (p := f = true ∧ 0 ≤ m ∧ m < 2 ^ 60 ∧ ds.length ≤ lim) He
    obtain ⟨ad, vs, rfl, h0, la, ra⟩ := r₁'.inv_list
    exact cut_list (s := s) (h₂ := h₂) st k la .none (.int m t) (head_upto q.2.1) (by rw [List.length_take]; omega) ((ra.take m.toNat).weak fun _ x => x q.1) rfl Hq
theorem ev_behind {v u : Expr} {a i : IE} {sp p : Pos} (hE : SEv prog w b0 r n) (ok : c.Ok n) (st : St (prog, w) b0 c E φ Ω s.heap) (ha : CE c.env.scope v a) (hi : CE c.env.scope u i) (H : G (evI consts r φ (.behind a i)) (EvPost (prog, w) c E Ω s Q) (XPost c s Ex)) :
    wpAny (model prog w) c.A (eval (.Subscript v (.Slice (some u) none none sp) p) c.env) Q Ex s := by
  dsimp only [evI] at H
  refine Subscript_ (hE c E φ Ω s _ _ _ _ ok st ha (H.bind.mono (fun d _ Hd va h₁ tk₁ k₁ r₁ => ?_) fun _ _ X => X))
  refine wpAny_Slice (wpAny_evalPart_some ?_)
  refine hE c E φ Ω { s with heap := h₁, toks := tk₁ } _ _ _ _ ok (st.kp k₁) hi (Hd.bind.mono (fun e _ He vi h₂ tk₂ k₂ r₂ => wpAny_evalPart_none (wpAny_evalPart_none ?_)) fun _ _ X => X.step k₁)
  have k := k₁.trans k₂
  have r₁' := r₁.mono (k₂.up fun _ _ => by simp) fun _ _ x _ => x
  obtain ⟨ad, vs, ds, rfl, h0, la, ra, He⟩ := G.rList He r₁'
  obtain ⟨m, t, rfl, He⟩ := G.rInt He r₂
  obtain ⟨q, Hq⟩ := G.need He
  exact cut_list (s := s) (h₂ := h₂) st k la (.int m t) .none (tail_from q.2.1) (by rw [List.length_drop]; omega) ((ra.drop m.toNat).weak fun _ x => x q.1) rfl Hq
end
end Mine
end

section
set_option Elab.async false
namespace Mine
open PySem PySem.W PySem.Calls PyProof.Rows PySem.Builtin PySem.Builtin.Str

theorem RA.strs {P : Program × World} {ok : Addr → Prop} {h : Heap} {ds : List V} {vs : List Value} {ks : List PySem.Str} (ra : RA P ok h vs ds) (hk : strsOf ds = some ks) : ∃ l : List (PySem.Str × Tok), vs = strValues l ∧ l.map (·.1) = ks := by
  induction ds generalizing vs ks with
  | nil => cases ra; cases hk; exact ⟨[], rfl, rfl⟩
  | cons d ds ih =>
    cases ra with
    | cons r ra =>
      cases r <;> first | (cases hk; done) | skip
      rename_i x t hx
      dsimp only [strsOf] at hk
      cases hs : strsOf ds with
      | none => rw [hs] at hk; cases hk
      | some ks' =>
        rw [hs] at hk
        cases hk
        obtain ⟨l, e1, e2⟩ := ih ra hs
        exact ⟨(x, t) :: l, by rw [e1]; rfl, by rw [← e2]; rfl⟩
theorem RA.of_strs {P : Program × World} {ok : Addr → Prop} {h : Heap} (l : List (PySem.Str × Tok)) (hl : ∀ a ∈ l.map (·.1), a.length ≤ sizeLine) : RA P ok h (strValues l) ((l.map (·.1)).map V.str) := by
  induction l with
  | nil => exact .nil
  | cons p l ih => exact .cons (.str p.1 p.2 (hl p.1 (.head _))) (ih fun a ha => hl a (.tail _ ha))
section
variable {prog : Program} {w : World} {A : Around} {Ex : Value → Shared → Prop} {s : Shared} {x y : PySem.Str} {t u : Tok} {Q : Value → Shared → Prop}
theorem sp0 (hsz : x.length ≤ sizeLine) (hsz2 : (spaceWords x (x.length + 1)).length ≤ sizeLine)
    (h : ∀ (l : List (PySem.Str × Tok)) k, l.map (·.1) = Txt.words x → Q (.ref s.heap.objs.size) { s with heap := s.heap.push { cls := .type "list", data := .seq (strValues l).toArray }, toks := k }) :
    wpAny (model prog w) A (call (.builtin "str.split") [.str x t]) Q Ex s := by
  refine call_meets F.slot_str_split (typeIs_str _ _ _) F.entry_str_split (F.args_str_split_1 _) (meets_str_split_space x t hsz hsz2) ?_
  cases hw : spaceWords x (x.length + 1) == [(0, x.length)]
  · simp only [Bool.false_eq_true, if_false]
    rw [strsFrom_eq]
    exact h (numbered s.toks (PySem.wordsOf x)) _ ((numbered_texts _ _).trans (if_neg (ne_true_of_eq_false hw)).symm)
  · simp only [if_true]
    exact h [(x, t)] s.toks (if_pos hw).symm
theorem sp1 (hy : (y.length == 0) = false) (hsz : x.length ≤ sizeLine) (hsz2 : (partsBetween x (occurrences x y 0 x.length (x.length + 1)) y.length).length ≤ sizeLine)
    (hq : ∀ (l : List (PySem.Str × Tok)) k, l.map (·.1) = Txt.split x y → Q (.ref s.heap.objs.size) { s with heap := s.heap.push { cls := .type "list", data := .seq (strValues l).toArray }, toks := k }) :
    wpAny (model prog w) A (call (.builtin "str.split") [.str x t, .str y u]) Q Ex s := by
  cases h1 : (decide (x.length < y.length) || decide (PySem.Builtin.Str.strKind x < PySem.Builtin.Str.strKind y))
  · cases hf : (occurrences x y 0 x.length (x.length + 1)).isEmpty
    · refine call_meets F.slot_str_split (typeIs_str _ _ _) F.entry_str_split (F.args_str_split_2 _ _) (meets_str_split_sep x y t u h1 hy hf hsz hsz2) ?_
      show wants Q Ex _ { s with toks := _, heap := s.heap.push { cls := .type "list", data := .seq (strsFrom s.toks (partsBetween x (occurrences x y 0 x.length (x.length + 1)) y.length)).toArray } }
      rw [strsFrom_eq]
      exact hq (numbered s.toks _) _ ((numbered_texts _ _).trans ((if_neg (ne_true_of_eq_false h1)).trans (if_neg (ne_true_of_eq_false hf))).symm)
    · exact call_meets F.slot_str_split (typeIs_str _ _ _) F.entry_str_split (F.args_str_split_2 _ _) (meets_str_split_not_found x y t u h1 hy hf)
        (hq [(x, t)] s.toks ((if_neg (ne_true_of_eq_false h1)).trans (if_pos hf)).symm)
  · exact call_meets F.slot_str_split (typeIs_str _ _ _) F.entry_str_split (F.args_str_split_2 _ _) (meets_str_split_cannot_occur x y t u h1)
      (hq [(x, t)] s.toks (if_pos h1).symm)
end
theorem spaceWords_le (x : PySem.Str) : (spaceWords x (x.length + 1)).length ≤ x.length + 1 := by
  have hw := StrLaws.sw_weight x
  have hm : ∀ l : List (Nat × Nat), l.length ≤ StrLaws.wsum l := by
    intro l
    induction l with
    | nil => exact Nat.zero_le _
    | cons p l ih => simp only [StrLaws.wsum, List.length_cons] at *; omega
  exact Nat.le_trans (hm _) hw.1
section
variable {prog : Program} {w : World} {b0 : Heap} {mg mb : PySem.Str → Option Value} {consts : String → Option V} {r : Rec} {n : Nat} {c : Cx} {E : List Addr} {φ : Frm} {Ω : List (String × Addr)} {s : Shared} {Q : Value → Shared → Prop} {Ex : Value → Shared → Prop} {A : Around}

theorem meth_sound {nme : String} {m : Mth} {x : PySem.Str} {t : Tok} {vs : List Value} {ds : List V} {okk : Addr → Prop} {X : Msg → Prop} {k : Nat} (hm : CMth nme k m) (hx : x.length ≤ sizeLine) (ra : RA (prog, w) okk s.heap vs ds)
    (H : G (methV m x ds) (fun d => ∀ v h' tk, Kp c.fs [] s.heap h' → (∀ ok : Addr → Prop, ok s.heap.objs.size → R (prog, w) ok h' v d) → Q v { s with heap := h', toks := tk }) X) :
    wpAny (model prog w) A (call (.builtin ("str." ++ nme)) (.str x t :: vs)) Q Ex s := by
  have hl2 : lim + 2 ≤ sizeLine := by rw [sizeLine_eq]; decide
  have b : ∀ {b : Bool}, (∀ v h' tk, Kp c.fs [] s.heap h' → (∀ ok : Addr → Prop, ok s.heap.objs.size → R (prog, w) ok h' v (.bool b)) → Q v { s with heap := h', toks := tk }) → Q (.bool b) s := fun h => h _ _ s.toks .refl fun _ _ => .bool _
  have st : ∀ {y : PySem.Str} {t' k'}, (∀ v h' tk, Kp c.fs [] s.heap h' → (∀ ok : Addr → Prop, ok s.heap.objs.size → R (prog, w) ok h' v (.str y)) → Q v { s with heap := h', toks := tk }) → y.length ≤ sizeLine → Q (.str y t') { s with toks := k' } := fun h hy => h _ _ _ .refl fun _ _ => .str _ _ hy
  have li : ∀ {ys : List PySem.Str} {l : List (PySem.Str × Tok)} {k'}, (∀ v h' tk, Kp c.fs [] s.heap h' → (∀ ok : Addr → Prop, ok s.heap.objs.size → R (prog, w) ok h' v (.list (ys.map V.str))) → Q v { s with heap := h', toks := tk }) → l.map (·.1) = ys → (∀ a ∈ l.map (·.1), a.length ≤ sizeLine) → l.length ≤ sizeLine →
      Q (.ref s.heap.objs.size) { s with heap := s.heap.push { cls := .type "list", data := .seq (strValues l).toArray }, toks := k' } := by
    intro ys l k' h e hl hlen
    subst e
    exact h _ _ _ (push_kp _) fun ok h0 => new_list h0 (by simpa [strValues] using hlen) (RA.of_strs l hl)
  have noA : ∀ {z : Res V} {PV : V → Prop}, G (arg0 ds z) PV X → vs = [] ∧ G z PV X := by
    intro z PV H
    obtain ⟨rfl, H⟩ := H.arg0
    cases ra
    exact ⟨rfl, H⟩
  have one : ∀ {f : PySem.Str → Res V} {PV : V → Prop}, G (arg1 ds fun d => onStr d f) PV X → ∃ y u, vs = [.str y u] ∧ G (f y) PV X := by
    intro f PV H
    obtain ⟨d, rfl, H⟩ := H.arg1
    cases ra with
    | cons a b =>
      cases b
      obtain ⟨y, u, rfl, _, H⟩ := H.rStr a
      exact ⟨y, u, rfl, H⟩
  cases hm
  · obtain ⟨rfl, H⟩ := noA H
    exact SCL.strip (fun t' k hlen => st H (Nat.le_trans hlen hx)) hx
  · obtain ⟨rfl, H⟩ := noA H
    exact SC.isprintable (b H)
  · obtain ⟨rfl, H⟩ := noA H
    exact SC.isascii (b H)
  · obtain ⟨rfl, H⟩ := noA H
    exact SC.isdigit (b H)
  · obtain ⟨y, u, rfl, H⟩ := one H
    exact SCL.removeprefix (fun t' k hlen => st H (Nat.le_trans hlen hx)) hx
  · obtain ⟨y, u, rfl, H⟩ := one H
    exact SCL.lstripChars (fun t' k hlen => st H (Nat.le_trans hlen hx)) hx
  · obtain ⟨y, u, rfl, H⟩ := one H
    exact SC.startswith (b H)
  · obtain ⟨rfl, H⟩ := noA H
    obtain ⟨hlim, H⟩ := H.need
    have hw := spaceWords_le x
    refine sp0 hx (by omega) fun l k e => li H e (fun a ha => ?_) ?_
    · rw [e] at ha; exact Nat.le_trans (word_short ha) hx
    · have := len_le_of_words e; omega
  · obtain ⟨y, u, rfl, H⟩ := one H
    obtain ⟨hlim, H⟩ := H.need
    have hp : (partsBetween x (occurrences x y 0 x.length (x.length + 1)) y.length).length ≤ sizeLine := by
      rw [len_partsBetween]
      have := StrLaws.occ_length_le x y 0 x.length (x.length + 1)
      omega
    refine sp1 (by simpa using hlim.2) hx hp fun l k e => li H e (fun a ha => ?_) ?_
    · rw [e] at ha; exact Nat.le_trans (part_short ha) hx
    · have := len_le_of_split e; omega
  · obtain ⟨d, rfl, H⟩ := G.arg1 H
    cases ra with
    | cons a b =>
      cases b
      obtain ⟨D, vs', es, rfl, _, la, ra', H⟩ := H.rList a
      obtain ⟨ks, hks, H⟩ := H.onO
      obtain ⟨hlim, H⟩ := H.need
      obtain ⟨l, rfl, e⟩ := ra'.strs hks
      have hok : JoinOk x ks = true := by
        unfold JoinOk
        rw [StrLaws.joinTotal]
        have : ¬ ((ks.map (·.length)).sum + ks.length * x.length > sizeLine) := by omega
        simp only [Bool.not_eq_true', tooLong]
        exact decide_eq_false this
      exact SC.join la.isList e hok fun t' k => st H (joinOk_length hok)
theorem CEs.all {sc : Scope} {es : List Expr} {is : List IE} (h : CEs sc es is) (env : Env) (p : Pos) : (backTo p (starEach es env)).all (fun x => !x.1) = true := by
  induction es generalizing is with
  | nil => rfl
  | cons e es ih =>
    cases h with
    | cons a b => rw [a.star]; show (true && _) = true; exact ih b
theorem RU.any {P : Program × World} {ok : Addr → Prop} {h : Heap} {vs us} (r : RU P ok h vs us) : RA P (fun _ => True) h vs (us.map (·.1)) := by
  induction r with
  | nil => exact .nil
  | cons a _ ih => exact .cons a.any ih
theorem mth_slot {nme : String} {k : Nat} {m : Mth} (h : CMth nme k m) : PySem.Slot "str" (nm nme) ("str." ++ nme) ∧ typeOf (.builtin ("str." ++ nme)) = pure (.type "method_descriptor") := by
  cases h
  · exact ⟨F.slot_str_strip, F.type_str_strip⟩
  · exact ⟨F.slot_str_isprintable, F.type_str_isprintable⟩
  · exact ⟨F.slot_str_isascii, F.type_str_isascii⟩
  · exact ⟨F.slot_str_isdigit, F.type_str_isdigit⟩
  · exact ⟨F.slot_str_removeprefix, F.type_str_removeprefix⟩
  · exact ⟨F.slot_str_lstrip, F.type_str_lstrip⟩
  · exact ⟨F.slot_str_startswith, F.type_str_startswith⟩
  · exact ⟨F.slot_str_split, F.type_str_split⟩
  · exact ⟨F.slot_str_split, F.type_str_split⟩
  · exact ⟨F.slot_str_join, F.type_str_join⟩
theorem mth_few {nme : String} {k : Nat} {m : Mth} (h : CMth nme k m) : k < 30 := by cases h <;> decide
theorem ev_meth {o : Expr} {a : IE} {args : List Expr} {is : List IE} {nme : String} {m : Mth} {ap p : Pos} (hE : SEv prog w b0 r n) (ok : c.Ok n) (st : St (prog, w) b0 c E φ Ω s.heap) (hm : CMth nme args.length m)
    (hb : ∀ env, attributeBase o (nm nme) env (eval o env) = eval o env) (hl : (ap.endLine == p.line) = true) (ho : CE c.env.scope o a) (ha : CEs c.env.scope args is)
    (H : G (evI consts r φ (.meth m a is)) (EvPost (prog, w) c E Ω s Q) (XPost c s Ex)) : wpAny (model prog w) c.A (eval (.Call (.Attribute o (nm nme) ap) args [] p) c.env) Q Ex s := by
  dsimp only [evI] at H
  have hfew := mth_few hm
  refine wpAny_Call_method (T := "str") (id := "str." ++ nme) (hb _) ?_ hl F.plainAttrs_str (mth_slot hm).1 (mth_slot hm).2 ?_
  · rw [ha.all]
    show (true && true && decide (args.length + 0 + 0 < 30)) = true
    rw [decide_eq_true (by omega)]; rfl
  refine hE c E φ Ω s _ _ _ _ ok st ho (H.bind.mono (fun u _ Hu v h₁ tk₁ k₁ r₁ => ?_) fun _ _ X => X)
  obtain ⟨x, t, rfl, hx, Hu⟩ := Hu.rStr r₁
  refine ⟨typeIs_str _ _ _, (fun _ e => nomatch e), ?_⟩
  have fin : ∀ us vs h₂ tk₂, G ((methV m x (us.map (·.1))).bind fun d => Res.ok (d, true)) (EvPost (prog, w) c E Ω s Q) (XPost c s Ex) → Kp c.fs [] s.heap h₂ → RU (prog, w) (fun a => a ∉ E ∧ a ∉ c.Y Ω) h₂ vs us →
      wpAny (model prog w) c.A (call (.builtin ("str." ++ nme)) (.str x t :: vs)) Q Ex { s with heap := h₂, toks := tk₂ } := fun us vs h₂ tk₂ Hm k₂ ru =>
    meth_sound (s := { s with heap := h₂, toks := tk₂ }) (c := c) hm hx ru.any (Hm.bind.mono (fun d _ Hd v h' tk k rv => (show EvPost (prog, w) c E Ω s Q (d, true) from Hd) _ _ _ (k₂.trans k) (rv _ fun q => (st.kp k₂).next q)) fun _ _ X => X)
  cases ha with
  | nil => exact callWith_method0 (fin [] [] h₁ tk₁ Hu k₁ .nil)
  | cons a0 as =>
    refine callWith_method1 ?_ (a0.star _ _) (CEs.plain as _ _)
    exact ev_args (s := { s with heap := h₁, toks := tk₁ }) hE ok (.cons a0 as) (st.kp k₁) (Hu.bind.mono (fun us hus Hus vs h₂ tk₂ k₂ r₂ => fin us vs h₂ tk₂ Hus (k₁.trans k₂) r₂) fun _ _ X => X.step k₁)
end
end Mine
end

section
set_option Elab.async false
namespace Mine
open PySem PySem.W PySem.Calls PyProof.Rows PySem.Builtin PySem.Builtin.Str

theorem kind_ascii : builtinKind "ascii" = none := by decide +kernel
theorem plain_ascii : plainId "ascii" = true := by decide +kernel
theorem entry_ascii : entryFor table "ascii" = some Builtin.«ascii» := entryFor_of_tree (by kernel_rfl)
theorem args_ascii1 (a : Value) : argsOk "ascii" ⟨[a], []⟩ := by unfold argsOk; kernel_rfl
section
variable {prog : Program} {w : World} {b0 : Heap} {mg mb : PySem.Str → Option Value} {consts : String → Option V} {r : Rec} {n : Nat} {c : Cx} {E : List Addr} {φ : Frm} {Ω : List (String × Addr)} {s : Shared} {Q : Value → Shared → Prop} {Ex : Value → Shared → Prop} {A : Around}

theorem ascii_str {x : PySem.Str} {t : Tok} (h1 : (reprText x).length ≤ 100000) (h2 : (asciiText x).length ≤ lim) (H : ∀ t tk, Q (.str (asciiText x) t) { s with toks := tk }) :
    wpAny (model prog w) A (call (.builtin "ascii") [.str x t]) Q Ex s := by
  refine Calls.call_function_entry kind_ascii plain_ascii entry_ascii (args_ascii1 _) ?_
  unfold Builtin.«ascii»
  have hv : [Value.str x t].any Value.onHeap = false := rfl
  refine wpAny_bind (m := oneArg "ascii" _) (wpAny_pure ?_)
  simp only [cRoomFor, hv, Bool.false_eq_true, if_false, pure_bind]
  have hx : (reprText x).length ≤ sizeLine := by rw [sizeLine_eq]; omega
  refine wpAny_bind (m := callSpecialIfBound? (.str x t) (Str.ofString "__repr__")) (wpAny_callSpecialIfBound?_slot (name := Str.ofString "__repr__") (typeIs_str _ _ _) F.slot_str_repr (call_gives F.slot_str_repr (typeIs_str _ _ _) F.entry_str_repr (F.args_str_repr_1 _) (gives_str_repr x t) ⟨hx, ?_⟩))
  refine wpAny_bind (m := asStr? (.str (reprText x) s.toks)) (wpAny_pure ?_)
  by_cases ha : (reprText x).cps.all (· < 128) = true
  · have e : asciiText x = reprText x := by unfold asciiText; rw [if_pos ha]
    rw [e] at H
    simp only [ha, if_true]
    exact wpAny_bind (wpAny_rule (wpAny_pure ⟨_, rfl, H _ _⟩))
  · have e : asciiText x = ⟨(reprText x).cps.flatMap fun c => (ascEsc c).toArray⟩ := by unfold asciiText; rw [if_neg ha]
    rw [e] at H h2
    simp only [ha]
    refine wpAny_bind (wpAny_letGo ?_)
    have hbig : decide (10 * (reprText x).length > sizeLine) = false := decide_eq_false (by rw [sizeLine_eq]; omega)
    simp only [hbig, Bool.false_and]
    refine wpAny_bind (wpAny_mkStr (wpAny_pure ⟨_, rfl, H _ _⟩) ?_)
    exact Nat.le_trans h2 lim_lt
theorem fv_asc {value : Expr} {pos : Pos} {env : Env} (h : wpAny (model prog w) A (eval value env) (fun v s₁ => wpAny (model prog w) A (call (.builtin "ascii") [v]) (fun r s₂ => wpAny (model prog w) A (formatField r PySem.Str.empty) Q Ex s₂) Ex s₁) Ex s) :
    wpAny (model prog w) A (eval (.FormattedValue value 97 none pos) env) Q Ex s := by
  rw [arm_eval_FormattedValue]
  refine wpAny_bind (wpAny_mono h (fun v s₁ h₁ => ?_) fun _ _ x => x)
  refine wpAny_bind (wpAny_standAt ?_)
  show wpAny _ _ (do let v' ← holding [v] (call (.builtin "ascii") [v]); formatField v' PySem.Str.empty) Q Ex s₁
  exact wpAny_bind (wpAny_holding h₁)

noncomputable def PtPost (c : Cx) (s : Shared) (Q : Value → Shared → Prop) (x : PySem.Str) : Prop := ∀ t h' tk, Kp c.fs [] s.heap h' → x.length ≤ sizeLine → Q (.str x t) { s with heap := h', toks := tk }
theorem part_sound {v : Expr} {fp : FP} (hE : SEv prog w b0 r n) (ok : c.Ok n) (st : St (prog, w) b0 c E φ Ω s.heap) (hf : CF c.env.scope v fp) (H : G (partI r φ fp) (PtPost c s Q) (XPost c s Ex)) :
    wpAny (model prog w) c.A (eval v c.env) Q Ex s := by
  obtain ⟨n', h, o⟩ := hf.one
  rw [← h]
  cases fp with
  | lit x =>
    have hx := shortB_ok o
    exact wpAny_Constant_str ((show PtPost c s Q _ from H) _ s.heap _ .refl hx)
  | fmt i =>
    have he := mkE (congrArg (kid 0) h) o
    dsimp only [partI] at H
    refine wpAny_FormattedValue_plain (hE c E φ Ω s _ _ _ _ ok st he (H.bind.mono (fun u _ Hu v h₁ tk₁ k₁ r₁ => ?_) fun _ _ X => X))
    obtain ⟨d, f⟩ := u
    cases d <;> first | exact (show False from Hu).elim | skip
    · rename_i i _
      rcases G.ite (show G (if i.natAbs < 2 ^ 100 then Res.ok (PySem.Str.ofString (toString i)) else Res.bad) _ _ from Hu) with ⟨q, Hq⟩ | ⟨_, Hq⟩
      · obtain ⟨t, rfl⟩ := r₁.inv_int
        exact wpAny_formatField_int (log2_ok q) ((show PtPost c s Q _ from Hq) _ _ _ k₁ (int_text_fits (log2_ok q)))
      · exact Hq.elim
    · obtain ⟨t, rfl, hx⟩ := r₁.inv_str
      have Hu' : PtPost c s Q _ := Hu
      exact wpAny_formatField_str (Hu' _ _ _ k₁ hx) (Hu' _ _ _ k₁ hx) hx
  | asc i =>
    have he := mkE (congrArg (kid 0) h) o
    dsimp only [partI] at H
    refine fv_asc (hE c E φ Ω s _ _ _ _ ok st he (H.bind.mono (fun u _ Hu v h₁ tk₁ k₁ r₁ => ?_) fun _ _ X => X))
    obtain ⟨x, t, rfl, hx, Hu⟩ := Hu.rStr r₁
    obtain ⟨q, Hq⟩ := Hu.need
    have hs : (asciiText x).length ≤ sizeLine := Nat.le_trans q.2 lim_lt
    exact ascii_str q.1 q.2 fun t tk => wpAny_formatField_str (Hq _ _ _ k₁ hs) (Hq _ _ _ k₁ hs) hs
theorem parts_sound (hE : SEv prog w b0 r n) (ok : c.Ok n) {vs : List Expr} {fps : List FP} (hf : CFs c.env.scope vs fps) : ∀ {out : PySem.Str} {s : Shared}, out.length ≤ sizeLine → St (prog, w) b0 c E φ Ω s.heap → G (partsI r φ out fps) (PtPost c s Q) (XPost c s Ex) →
    wpAny (model prog w) c.A (joinParts out (evalEach vs c.env)) Q Ex s := by
  induction hf with
  | nil => exact fun ho _ H => joinParts_nil ((show PtPost c _ Q _ from H) _ _ _ .refl ho) ho
  | cons hf _ ih =>
    intro out s ho st H
    rename_i v vs fp fps _
    show wpAny _ _ (joinParts out (eval v c.env :: evalEach vs c.env)) Q Ex s
    refine joinParts_cons (part_sound hE ok st hf ((G.bind (res := partI r φ fp) H).mono (fun x _ Hx t h₁ tk₁ k₁ hx => ?_) fun _ _ X => X))
    obtain ⟨q, Hq⟩ := G.need Hx
    have hs : (out ++ x).length ≤ sizeLine := by rw [PySem.Str.length_append]; have := lim_lt; omega
    exact ⟨hs, ih (s := { s with heap := h₁, toks := tk₁ }) hs (st.kp k₁) (Hq.mono (fun y _ Hy t h' tk k hl => Hy t h' tk (k₁.trans k) hl) fun _ _ X => X.step k₁)⟩
theorem ev_fstr {v₁ v₂ : Expr} {vs : List Expr} {ps : List FP} {p : Pos} (hE : SEv prog w b0 r n) (ok : c.Ok n) (st : St (prog, w) b0 c E φ Ω s.heap) (hf : CFs c.env.scope (v₁ :: v₂ :: vs) ps) (H : G (evI consts r φ (.fstr ps)) (EvPost (prog, w) c E Ω s Q) (XPost c s Ex)) :
    wpAny (model prog w) c.A (eval (.JoinedStr (v₁ :: v₂ :: vs) p) c.env) Q Ex s := by
  dsimp only [evI] at H
  exact JoinedStr_many (parts_sound hE ok hf (by decide) st (H.bind.mono (fun x _ Hx t h' tk k hx => (show EvPost (prog, w) c E Ω s Q _ from Hx) _ _ _ k (.str _ _ hx)) fun _ _ X => X))

/-! ## dicts -/
theorem valueAt_lookup (k : PySem.Str) {P : Program × World} {okk : Addr → Prop} {h : Heap} {ps : List (PySem.Str × Value)} : ∀ {ds : List V}, RA P okk h (ps.map (·.2)) ds → (((ps.map (·.1)).zip ds).lookup k).isSome = (valueAt ps k).isSome ∧ ∀ d, ((ps.map (·.1)).zip ds).lookup k = some d → ∃ v, valueAt ps k = some v ∧ R P okk h v d := by
  induction ps with
  | nil => intro ds ra; cases ra; exact ⟨rfl, fun _ q => nomatch q⟩
  | cons p ps ih =>
    obtain ⟨k', v⟩ := p
    intro ds ra
    cases ra with
    | cons r ra =>
    rename_i d ds
    have ih := ih ra
    have e1 : ((((k', v) :: ps).map (·.1)).zip (d :: ds)).lookup k = if k = k' then some d else ((ps.map (·.1)).zip ds).lookup k := by
      show (match k == k' with | true => some d | false => ((ps.map Prod.fst).zip ds).lookup k) = _
      by_cases e : k = k'
      · subst e; simp
      · rw [if_neg e, beq_eq_false_iff_ne.mpr e]
    have e2 : valueAt ((k', v) :: ps) k = if k = k' then some v else valueAt ps k := by
      unfold valueAt
      rw [List.find?_cons]
      by_cases e : k = k'
      · subst e; simp
      · rw [if_neg e, show decide (((k', v) : PySem.Str × Value).1 = k) = false from decide_eq_false fun z => e z.symm]
    rw [e1, e2]
    by_cases e : k = k'
    · simp only [if_pos e]
      exact ⟨rfl, fun d' q => by cases q; exact ⟨v, rfl, r⟩⟩
    · simp only [if_neg e]; exact ih
theorem zip_len {ps : List (PySem.Str × Value)} {ds : List V} {P : Program × World} {okk : Addr → Prop} {h : Heap} (ra : RA P okk h (ps.map (·.2)) ds) : ((ps.map (·.1)).zip ds).length = ps.length := by
  have := ra.length
  rw [List.length_zip, List.length_map]
  rw [List.length_map] at this
  omega
theorem strIs (x : PySem.Str) (t : Tok) : (strKind prog w).is x (.str x t) = true := by
  show Value.isStrOf x (.str x t) = true
  simp [Value.isStrOf]
theorem len_sound {d : V} {v : Value} {okk : Addr → Prop} {X : Msg → Prop} (r₁ : R (prog, w) okk s.heap v d) (H : G (lenV d) (fun k => ∀ t tk, Q (.int k t) { s with toks := tk }) X) : wpAny (model prog w) A (call (.builtin "len") [v]) Q Ex s := by
  cases r₁ with
  | none => exact (show False from H).elim
  | bool => exact (show False from H).elim
  | int => exact (show False from H).elim
  | flt => exact (show False from H).elim
  | str x t hx => exact PySem.P.len_str (by have := len63 hx; omega) (H _ _)
  | tuple h0 h1 h2 h3 hs h4 =>
    refine PyProof.Rows.len_tuple ⟨_, h1, h2, _, h3⟩ (by rw [List.size_toArray]; exact len63 hs) ?_
    rw [List.size_toArray, h4.length]; exact H _ _
  | list h0 h1 h2 h3 hs h4 =>
    refine len_list ⟨_, h1, h2, _, h3⟩ (by rw [List.size_toArray]; exact len63 hs) ?_
    rw [List.size_toArray, h4.length]; exact H _ _
  | dict h0 h1 h2 h4 hs =>
    refine call_len_dict h2 h1 (len63 hs.1) ?_
    rw [← zip_len h4]; exact H _ _
theorem item_sound {d e : V} {v i : Value} {value slice : Expr} {okk okk' : Addr → Prop} {X : Msg → Prop} (r₁ : R (prog, w) okk s.heap v d) (r₂ : R (prog, w) okk' s.heap i e)
    (hs : ∀ o v, subscripted slice false o v = operate [o, v] (getItem o v)) (H : G (indexV d e) (fun x => ∀ v' tk, R (prog, w) okk s.heap v' x → Q v' { s with toks := tk }) X) : wpAny (model prog w) A (subscriptTail value slice v i) Q Ex s := by
  cases r₁ with
  | none => exact (show False from H).elim
  | bool => exact (show False from H).elim
  | int => exact (show False from H).elim
  | flt => exact (show False from H).elim
  | str y t hy =>
    obtain ⟨k, u, rfl, H⟩ := G.rInt H r₂
    obtain ⟨q, H⟩ := G.need H
    obtain ⟨cp, hc, H⟩ := G.onO H
    have hlt : k.toNat < y.length := (Array.getElem?_eq_some_iff.mp hc).1
    refine tail_any (T := "str") rfl PySem.F.slot_str_getitem.lookup (PySem.P.getItem_str (c := cp) ?_ ?_ (H _ _ (.str _ _ (by rw [sizeLine_eq]; exact Nat.le_of_ble_eq_true rfl)))) (hs _ _)
    · rw [Bool.or_eq_false_iff]; exact ⟨decide_eq_false (by omega), decide_eq_false (by have := len63 hy; omega)⟩
    · rw [seq_idx q hlt]; exact hc
  | tuple h0 h1 h2 h3 hsz h4 =>
    refine at_sound H r₂ h4 fun k t v' d e hk hlt hv rv Hd => ?_
    subst e
    exact item_tupleT ⟨_, h1, h2, _, h3⟩ (by omega) (by have := len63 hsz; omega) (seq_idx hk hlt) hv (Hd _ s.toks rv) (hs _ _)
  | list h0 h1 h2 h3 hsz h4 =>
    rename_i a o vs k' ds
    have hL : s.heap.IsList a vs.toArray := ⟨_, h1, h2, _, h3⟩
    refine at_sound H r₂ h4 fun k t v' d e hk hlt hv rv Hd => ?_
    subst e
    exact tail_any hL.typeIs slot_list_getitem.lookup (wpAny_getItem_list hL hk (by have := len63 hsz; omega) (by simpa using hv) (Hd _ s.toks rv)) (hs _ _)
  | dict h0 h1 h2 h4 hsz =>
    obtain ⟨y, t, rfl, _, H⟩ := G.rStr H r₂
    obtain ⟨d', hl, H⟩ := H.onO
    obtain ⟨v', hv, rv⟩ := (valueAt_lookup _ h4).2 _ hl
    exact tail_any h1.typeIs slot_dict_getitem.lookup (wpAny_getItem_of (strIs _ _) h1.mapOf hv (H _ _ rv)) (hs _ _)
theorem ev_len {x : Expr} {a : IE} {np p : Pos} (S : Stat (prog, w) b0 mg mb consts) (hE : SEv prog w b0 r n) (ok : c.Ok n) (st : St (prog, w) b0 c E φ Ω s.heap) (hn : GName c.env.scope "len") (ha : CE c.env.scope x a)
    (H : G (evI consts r φ (.len a)) (EvPost (prog, w) c E Ω s Q) (XPost c s Ex)) : wpAny (model prog w) c.A (eval (.Call (.Name (nm "len") np) [x] [] p) c.env) Q Ex s := by
  dsimp only [evI] at H
  refine call1_b S hE ok st hn (by decide) boot_len (by decide) ha (H.bind.mono (fun u _ Hu v h₁ tk₁ k₁ r₁ => ?_) fun _ _ X => X)
  refine len_sound (s := { s with heap := h₁, toks := tk₁ }) r₁ (Hu.bind.mono (fun k _ Hk t tk => (show EvPost (prog, w) c E Ω s Q (.int k, true) from Hk) _ _ _ k₁ (.int _ _)) fun _ _ X => X)
theorem ev_index {v sl : Expr} {a i : IE} {p : Pos} (hE : SEv prog w b0 r n) (ok : c.Ok n) (st : St (prog, w) b0 c E φ Ω s.heap) (ha : CE c.env.scope v a) (hi : CE c.env.scope sl i) (H : G (evI consts r φ (.index a i)) (EvPost (prog, w) c E Ω s Q) (XPost c s Ex)) :
    wpAny (model prog w) c.A (eval (.Subscript v sl p) c.env) Q Ex s := by
  dsimp only [evI] at H
  refine Subscript_ (hE c E φ Ω s _ _ _ _ ok st ha (H.bind.mono (fun u _ Hu va h₁ tk₁ k₁ r₁ => ?_) fun _ _ X => X))
  refine hE c E φ Ω { s with heap := h₁, toks := tk₁ } _ _ _ _ ok (st.kp k₁) hi (Hu.bind.mono (fun e _ He vi h₂ tk₂ k₂ r₂ => ?_) fun _ _ X => X.step k₁)
  have k := k₁.trans k₂
  have r₁' := r₁.mono (k₂.up fun _ _ => by simp) fun _ _ x _ => x
  exact item_sound (s := { s with heap := h₂, toks := tk₂ }) r₁' r₂ (fun _ _ => hi.subs _ _) (He.bind.mono (fun d _ Hd v' tk rv => (show EvPost (prog, w) c E Ω s Q (d, u.2) from Hd) _ _ _ k rv) fun _ _ X => X)
end
end Mine
end

section
set_option Elab.async false
namespace Mine
open PySem PySem.W PySem.Calls PyProof.Rows

theorem RA.reads {P : Program × World} {ok : Addr → Prop} {h : Heap} {vs : List Value} {ds : List V} (x : RA P ok h vs ds) : ∀ ps, V.pys ds = some ps → ∃ as, ReadsAll h vs ps as :=
  RA.rec (motive_1 := fun v d _ => ∀ p, V.py d = some p → ∃ as, Reads h v p as) (motive_2 := fun vs ds _ => ∀ ps, V.pys ds = some ps → ∃ as, ReadsAll h vs ps as)
    (fun _ e => by cases e; exact ⟨_, .none⟩) (fun b _ e => by cases e; exact ⟨_, .bool b⟩) (fun i t _ e => by cases e; exact ⟨_, .int i t⟩) (fun _ _ _ e => by cases e) (fun x t _ _ e => by cases e; exact ⟨_, .str x t⟩)
    (fun _ h1 h2 h3 _ _ ih _ e => by
      rw [V.py] at e
      obtain ⟨ps, hp, rfl⟩ := Option.map_eq_some_iff.mp e
      obtain ⟨as, q⟩ := ih ps hp
      exact ⟨_, .tuple h1 h2 h3 (by simpa using q)⟩)
    (fun _ h1 h2 h3 _ _ ih _ e => by
      rw [V.py] at e
      obtain ⟨ps, hp, rfl⟩ := Option.map_eq_some_iff.mp e
      obtain ⟨as, q⟩ := ih ps hp
      exact ⟨_, .list h1 h2 h3 (by simpa using q)⟩)
    (fun _ _ _ _ _ _ _ e => by cases e)
    (fun _ e => by cases e; exact ⟨_, .nil⟩)
    (fun {v vs d ds} _ _ i1 i2 _ e => by
      rw [V.pys] at e
      cases h1 : V.py d with
      | none => rw [h1] at e; cases e
      | some p =>
        cases h2 : V.pys ds with
        | none => rw [h1, h2] at e; cases e
        | some ps =>
          rw [h1, h2] at e
          cases e
          obtain ⟨as, q⟩ := i1 _ h1
          obtain ⟨bs, q'⟩ := i2 _ h2
          exact ⟨_, .cons q q'⟩) x
theorem R.reads {P : Program × World} {ok : Addr → Prop} {h : Heap} {v : Value} {d : V} {p : PyData} (r : R P ok h v d) (e : V.py d = some p) : ∃ as, Reads h v p as := by
  obtain ⟨as, q⟩ := RA.reads (.cons r .nil) [p] (by rw [V.pys, e]; rfl)
  cases q with
  | cons q _ => exact ⟨_, q⟩
section
variable {prog : Program} {w : World} {b0 : Heap} {mg mb : PySem.Str → Option Value} {consts : String → Option V} {r : Rec} {n : Nat} {c : Cx} {E : List Addr} {φ : Frm} {Ω : List (String × Addr)} {s : Shared} {Q : Value → Shared → Prop} {QB : Bool → Shared → Prop} {Ex : Value → Shared → Prop} {A : Around}

theorem eq_sound {d e : V} {v u : Value} {okk okk' : Addr → Prop} {PB : Bool → Prop} {X : Msg → Prop} (H : G (eqV d e) PB X) (r₁ : R (prog, w) okk s.heap v d) (r₂ : R (prog, w) okk' s.heap u e) (hu : A.units + 64 < cLine) :
    ∃ b, PB b ∧ (Q (.bool b) s → wpAny (model prog w) A (compareOp .Eq v u) Q Ex s) ∧ (Q (.bool (!b)) s → wpAny (model prog w) A (compareOp .NotEq v u) Q Ex s) := by
  have seq : ∀ {mk : List PyData → PyData} {a b : List V}, (∀ p, V.pys a = some p → ∃ as, Reads s.heap v (mk p) as) → (∀ p, V.pys b = some p → ∃ as, Reads s.heap u (mk p) as) → G (eqD mk a b) PB X →
      ∃ b, PB b ∧ (Q (.bool b) s → wpAny (model prog w) A (compareOp .Eq v u) Q Ex s) ∧ (Q (.bool (!b)) s → wpAny (model prog w) A (compareOp .NotEq v u) Q Ex s) := by
    intro mk a b h1 h2 H
    obtain ⟨p, hp, H⟩ := G.onO H
    obtain ⟨q, hq, H⟩ := G.onO H
    obtain ⟨hs, H⟩ := G.need H
    obtain ⟨as, ra⟩ := h1 p hp
    obtain ⟨bs, rb⟩ := h2 q hq
    exact ⟨_, H, fun h => eq_dataH ra rb hs.1 hs.2 hu h, fun h => ne_dataH ra rb hs.1 hs.2 hu h⟩
  cases d with
  | none => exact (show False from H).elim
  | bool => exact (show False from H).elim
  | flt => exact (show False from H).elim
  | dict => exact (show False from H).elim
  | int i =>
    obtain ⟨t, rfl⟩ := r₁.inv_int
    obtain ⟨j, t', rfl, H⟩ := G.rInt H r₂
    exact ⟨_, H, fun h => PyProof.Rows.eq_int h, fun h => PyProof.Rows.ne_int h⟩
  | str x =>
    obtain ⟨t, rfl, _⟩ := r₁.inv_str
    obtain ⟨j, t', rfl, _, H⟩ := G.rStr H r₂
    exact ⟨_, H, fun h => PyProof.Rows.eq_str h, fun h => PyProof.Rows.ne_str h⟩
  | list a =>
    obtain ⟨b, rfl, H⟩ := G.onList H
    exact seq (fun p hp => r₁.reads (by rw [V.py, hp]; rfl)) (fun p hp => r₂.reads (by rw [V.py, hp]; rfl)) H
  | tuple a =>
    obtain ⟨b, rfl, H⟩ := G.onTup H
    exact seq (fun p hp => r₁.reads (by rw [V.py, hp]; rfl)) (fun p hp => r₂.reads (by rw [V.py, hp]; rfl)) H
theorem strsAre (l : List (PySem.Str × Tok)) : StrsAre (strValues l) (l.map (·.1)) := by
  induction l with
  | nil => exact .nil
  | cons p l ih => exact .cons p.1 p.2 ih
theorem in_sound {d e : V} {v u : Value} {okk okk' : Addr → Prop} {PB : Bool → Prop} {X : Msg → Prop} (H : G (inV d e) PB X) (r₁ : R (prog, w) okk s.heap v d) (r₂ : R (prog, w) okk' s.heap u e) :
    ∃ b, PB b ∧ ((∀ tk, Q (.bool b) { s with toks := tk }) → wpAny (model prog w) A (compareOp .In v u) Q Ex s) ∧ ((∀ tk, Q (.bool (!b)) { s with toks := tk }) → wpAny (model prog w) A (compareOp .NotIn v u) Q Ex s) := by
  obtain ⟨k, t, rfl, _, H⟩ := G.rStr H r₁
  cases r₂ with
  | none => exact (show False from H).elim
  | bool => exact (show False from H).elim
  | int => exact (show False from H).elim
  | flt => exact (show False from H).elim
  | str => exact (show False from H).elim
  | tuple => exact (show False from H).elim
  | list h0 h1 h2 h3 hs ra =>
    obtain ⟨ks, hk, H⟩ := G.onO H
    obtain ⟨l, rfl, e⟩ := ra.strs hk
    have hi := strsAre l
    rw [e] at hi
    exact ⟨_, H, fun h => in_list_strs ⟨_, h1, h2, _, h3⟩ hi (h s.toks), fun h => notin_list_strs ⟨_, h1, h2, _, h3⟩ hi (h s.toks)⟩
  | dict h0 h1 h2 h4 hs =>
    refine ⟨_, H, ?_⟩
    rw [(valueAt_lookup _ h4).1]
    exact ⟨fun h => wpAny_in_of (strIs _ _) h2 h1.mapOf (h _), fun h => wpAny_notIn_of (strIs _ _) h2 h1.mapOf (h _)⟩
theorem cmp_sound {o : CmpOp} {op : COp} {d e : V} {v u : Value} {okk okk' : Addr → Prop} {X : Msg → Prop} (ho : COpC o op) (r₁ : R (prog, w) okk s.heap v d) (r₂ : R (prog, w) okk' s.heap u e) (hu : A.units + 64 < cLine)
    (H : G (cmpV op d e) (fun b => ∀ tk, Q (.bool b) { s with toks := tk }) X) : wpAny (model prog w) A (compareOp o v u) Q Ex s := by
  cases ho
  · obtain ⟨b, Hb, h, _⟩ := eq_sound (Q := Q) (Ex := Ex) H r₁ r₂ hu
    exact h (Hb s.toks)
  · obtain ⟨b, Hb, _, h⟩ := eq_sound (Q := Q) (Ex := Ex) (G.bind H) r₁ r₂ hu
    exact h (Hb s.toks)
  · obtain ⟨i, t, rfl, H⟩ := G.rInt H r₁
    obtain ⟨j, t', rfl, H⟩ := G.rInt H r₂
    exact PySem.P.lt_int (H s.toks)
  · obtain ⟨i, t, rfl, H⟩ := G.rInt H r₁
    obtain ⟨j, t', rfl, H⟩ := G.rInt H r₂
    exact PySem.P.gt_int (H s.toks)
  · obtain ⟨i, t, rfl, H⟩ := G.rInt H r₁
    obtain ⟨j, t', rfl, H⟩ := G.rInt H r₂
    exact PySem.P.ge_int (H s.toks)
  · obtain ⟨b, Hb, h, _⟩ := in_sound (Q := Q) (Ex := Ex) (A := A) H r₁ r₂
    exact h Hb
  · obtain ⟨b, Hb, _, h⟩ := in_sound (Q := Q) (Ex := Ex) (A := A) (G.bind H) r₁ r₂
    exact h Hb
theorem Cx.Ok.u64 (ok : c.Ok n) : c.A.units + 64 < cLine := by have := ok.units; omega

theorem ts_tt {e : Expr} {i : IE} (hE : SEv prog w b0 r n) (ok : c.Ok n) (st : St (prog, w) b0 c E φ Ω s.heap) (he : CE c.env.scope e i) (hi : ∀ env whole, isTrue e env whole = (do let v ← whole; standAt e.pos; holding [v] (truthy v)))
    (H : G (tsI r φ (.tt i)) (TsPost c s QB) (XPost c s Ex)) : wpAny (model prog w) c.A (isTrue e c.env (eval e c.env)) QB Ex s := by
  dsimp only [tsI] at H
  refine wpAny_isTrue_value (hE c E φ Ω s _ _ _ _ ok st he (H.bind.mono (fun u _ Hu v h₁ tk₁ k₁ r₁ => ?_) fun _ _ X => X)) (hi _ _)
  exact tr r₁ Hu fun b tk Hb => Hb _ _ k₁
theorem ts_cmp {l rr : Expr} {o : CmpOp} {op : COp} {a b : IE} {p : Pos} (hE : SEv prog w b0 r n) (ok : c.Ok n) (st : St (prog, w) b0 c E φ Ω s.heap) (ho : COpC o op) (ha : CE c.env.scope l a) (hb : CE c.env.scope rr b)
    (H : G (tsI r φ (.cmp op a b)) (TsPost c s QB) (XPost c s Ex)) {whole : Sem Value} : wpAny (model prog w) c.A (isTrue (.Compare l [o] [rr] p) c.env whole) QB Ex s := by
  dsimp only [tsI] at H
  refine wpAny_isTrue_Compare1 (hE c E φ Ω s _ _ _ _ ok st ha (H.bind.mono (fun u _ Hu v h₁ tk₁ k₁ r₁ => ?_) fun _ _ X => X)) (hb.noMark _)
  refine hE c E φ Ω { s with heap := h₁, toks := tk₁ } _ _ _ _ ok (st.kp k₁) hb (Hu.bind.mono (fun e _ He vi h₂ tk₂ k₂ r₂ => ?_) fun _ _ X => X.step k₁)
  have r₁' := r₁.mono (k₂.up fun _ _ => by simp) fun _ _ x _ => x
  exact cmp_sound (s := { s with heap := h₂, toks := tk₂ }) ho r₁' r₂ ok.u64 (He.mono (fun t _ Ht tk => wpAny_truthy_bool (Ht _ _ (k₁.trans k₂))) fun _ _ X => X)
theorem ts_between {x y z : Expr} {a b d : IE} {p : Pos} (hE : SEv prog w b0 r n) (ok : c.Ok n) (st : St (prog, w) b0 c E φ Ω s.heap) (ha : CE c.env.scope x a) (hb : CE c.env.scope y b) (hd : CE c.env.scope z d)
    (H : G (tsI r φ (.between a b d)) (TsPost c s QB) (XPost c s Ex)) {whole : Sem Value} : wpAny (model prog w) c.A (isTrue (.Compare x [.LtE, .LtE] [y, z] p) c.env whole) QB Ex s := by
  dsimp only [tsI] at H
  refine isTrue_chain (hE c E φ Ω s _ _ _ _ ok st ha (H.bind.mono (fun u _ Hu v h₁ tk₁ k₁ r₁ => ?_) fun _ _ X => X)) (by show behindInMarks _ z = false; exact hd.noMark _)
  refine test_link (hE c E φ Ω { s with heap := h₁, toks := tk₁ } _ _ _ _ ok (st.kp k₁) hb (Hu.bind.mono (fun e _ He vi h₂ tk₂ k₂ r₂ => ?_) fun _ _ X => X.step k₁))
  obtain ⟨i, t, rfl, He⟩ := He.rInt r₁
  obtain ⟨j, t', rfl, He⟩ := He.rInt r₂
  have k := k₁.trans k₂
  refine PySem.P.le_int (wpAny_truthy_bool ?_)
  rcases G.ite He with ⟨q, Hq⟩ | ⟨q, Hq⟩
  · rw [decide_eq_true q]
    simp only [if_true]
    refine test_last (hE c E φ Ω { s with heap := h₂, toks := tk₂ } _ _ _ _ ok (st.kp k) hd (Hq.bind.mono (fun e _ He vi h₃ tk₃ k₃ r₃ => ?_) fun _ _ X => X.step k))
    obtain ⟨z, t'', rfl, He⟩ := He.rInt r₃
    exact PySem.P.le_int (wpAny_truthy_bool (He _ _ (k.trans k₃)))
  · rw [decide_eq_false q]
    exact (show TsPost c s QB false from Hq) _ _ k
theorem ts_isNone {x : Expr} {a : IE} {k : Nat} {cp p : Pos} {yes : Bool} (hE : SEv prog w b0 r n) (ok : c.Ok n) (st : St (prog, w) b0 c E φ Ω s.heap) (ha : CE c.env.scope x a)
    (H : G (tsI r φ (.isNone a yes)) (TsPost c s QB) (XPost c s Ex)) {whole : Sem Value} : wpAny (model prog w) c.A (isTrue (.Compare x [if yes then .Is else .IsNot] [.Constant .none k cp] p) c.env whole) QB Ex s := by
  dsimp only [tsI] at H
  refine wpAny_isTrue_Compare1 (hE c E φ Ω s _ _ _ _ ok st ha (H.bind.mono (fun u _ Hu v h₁ tk₁ k₁ r₁ => ?_) fun _ _ X => X)) rfl
  refine wpAny_Constant_none ?_
  have e : G (Res.ok (if (v == .none) = true then yes else !yes)) (TsPost c s QB) (XPost c s Ex) := by
    obtain ⟨d, f⟩ := u
    cases r₁ <;> exact Hu
  have fin : ∀ b, (if (v == .none) = true then yes else !yes) = b → TsPost c s QB b := fun b q => q ▸ e
  cases yes with
  | true =>
    refine PySem.is_none (wpAny_truthy_bool (fin _ ?_ _ _ k₁))
    cases q : (v == Value.none) <;> rfl
  | false =>
    refine PySem.isNot_none (wpAny_truthy_bool (fin _ ?_ _ _ k₁))
    cases q : (v == Value.none) <;> rfl
theorem type_sound {d : V} {v : Value} {okk : Addr → Prop} {X : Msg → Prop} (r₁ : R (prog, w) okk s.heap v d) (H : G (typeV d) (fun T => Q (.type T) s) X) : wpAny (model prog w) A (call (.type "type") [v]) Q Ex s := by
  rcases H.typeV r₁ with ⟨rfl, H⟩ | ⟨b, rfl, H⟩ | ⟨i, t, rfl, H⟩ | ⟨x, t, rfl, H⟩ | ⟨x, t, rfl, H⟩
  · exact call_type_of rfl (by decide) H
  · exact call_type_of rfl (by decide) H
  · exact call_type_of (typeIs_int _ _ _) (by decide) H
  · exact call_type_of (typeIs_str _ _ _) (by decide) H
  · exact call_type_of rfl (by decide) H
theorem ts_typeIs {x : Expr} {a : IE} {T : String} {np xp tp p : Pos} {yes : Bool} (S : Stat (prog, w) b0 mg mb consts) (hE : SEv prog w b0 r n) (ok : c.Ok n) (st : St (prog, w) b0 c E φ Ω s.heap) (hn : GName c.env.scope "type") (hT : GName c.env.scope T) (hT' : T = "int" ∨ T = "str" ∨ T = "bool") (ha : CE c.env.scope x a)
    (H : G (tsI r φ (.typeIs a T yes)) (TsPost c s QB) (XPost c s Ex)) {whole : Sem Value} : wpAny (model prog w) c.A (isTrue (.Compare (.Call (.Name (nm "type") np) [x] [] xp) [if yes then .Is else .IsNot] [.Name (nm T) tp] p) c.env whole) QB Ex s := by
  dsimp only [tsI] at H
  refine wpAny_isTrue_Compare1 (call1_t S hE ok st hn (by decide) boot_type (by decide) ha (H.bind.mono (fun u _ Hu v h₁ tk₁ k₁ r₁ => ?_) fun _ _ X => X)) rfl
  refine type_sound (s := { s with heap := h₁, toks := tk₁ }) r₁ (Hu.bind.mono (fun T' _ Hf => ?_) fun _ _ X => X)
  have Hf : TsPost c s QB ((T' == T) == yes) := Hf
  have eqT : (Value.type T' == Value.type T) = (T' == T) := by
    by_cases q : T' = T
    · subst q; simp
    · rw [beq_eq_false_iff_ne.mpr q]; exact beq_eq_false_iff_ne.mpr fun z => q (by injection z)
  have go : mg (nm T) = none → bootBuiltins (nm T) = some (.type T) → nm T ≠ "__name__" → wpAny (model prog w) c.A (eval (.Name (nm T) tp) c.env) (fun b s₂ => wpAny (model prog w) c.A (compareOp (if yes then .Is else .IsNot) (.type T') b) (fun z s₃ => wpAny (model prog w) c.A (truthy z) QB Ex s₃) Ex s₂) Ex { s with heap := h₁, toks := tk₁ } := by
    intro g1 g2 g3
    refine ld_boot S ok (st.kp k₁) hT g1 g2 g3 ?_
    cases yes with
    | true =>
      refine wpAny_is_plain rfl (wpAny_truthy_bool ?_)
      rw [eqT]
      have := Hf _ tk₁ k₁
      cases q : (T' == T) <;> rw [q] at this <;> exact this
    | false =>
      refine wpAny_isNot_plain rfl (wpAny_truthy_bool ?_)
      rw [eqT]
      have := Hf _ tk₁ k₁
      cases q : (T' == T) <;> rw [q] at this <;> exact this
  rcases hT' with rfl | rfl | rfl
  · exact go (S.free _ (by decide)) boot_int (by decide)
  · exact go (S.free _ (by decide)) boot_str (by decide)
  · exact go (S.free _ (by decide)) boot_bool (by decide)
theorem ts_and (hT : STs prog w b0 r n) (ok : c.Ok n) {p : Pos} {whole : Sem Value} {vs : List Expr} {ts : List TE} (hv : CTs c.env.scope vs ts) : ∀ {s : Shared}, St (prog, w) b0 c E φ Ω s.heap → G (allI r φ ts) (TsPost c s QB) (XPost c s Ex) →
    wpAny (model prog w) c.A (isTrue (.BoolOp .And vs p) c.env whole) QB Ex s := by
  induction hv with
  | nil => exact fun _ H => (show False from H).elim
  | cons h hs ih =>
    intro s st H
    rename_i t _
    cases hs with
    | nil =>
      refine isTrue_and (hT c E φ Ω s _ _ _ _ ok st h (G.mono (res := r.ts φ t) H (fun b _ Hb h₁ tk₁ k₁ => ?_) fun _ _ X => X))
      cases b with
      | true => exact isTrue_and_nil (Hb _ _ k₁)
      | false => exact Hb _ _ k₁
    | cons h' hs =>
      refine isTrue_and (hT c E φ Ω s _ _ _ _ ok st h (G.mono (G.bind (res := r.ts φ t) H) (fun b _ Hb h₁ tk₁ k₁ => ?_) fun _ _ X => X))
      cases b with
      | true => exact ih (s := { s with heap := h₁, toks := tk₁ }) (st.kp k₁) (G.mono (res := allI r φ (_ :: _)) Hb (fun _ _ Hu => Hu.step k₁) fun _ _ X => X.step k₁)
      | false => exact (show TsPost c s QB false from Hb) _ _ k₁
theorem ts_or (hT : STs prog w b0 r n) (ok : c.Ok n) {p : Pos} {whole : Sem Value} {vs : List Expr} {ts : List TE} (hv : CTs c.env.scope vs ts) : ∀ {s : Shared}, St (prog, w) b0 c E φ Ω s.heap → G (anyI r φ ts) (TsPost c s QB) (XPost c s Ex) →
    wpAny (model prog w) c.A (isTrue (.BoolOp .Or vs p) c.env whole) QB Ex s := by
  induction hv with
  | nil => exact fun _ H => (show False from H).elim
  | cons h hs ih =>
    intro s st H
    rename_i t _
    cases hs with
    | nil =>
      refine isTrue_or (hT c E φ Ω s _ _ _ _ ok st h (G.mono (res := r.ts φ t) H (fun b _ Hb h₁ tk₁ k₁ => ?_) fun _ _ X => X))
      cases b with
      | false => exact isTrue_or_nil (Hb _ _ k₁)
      | true => exact Hb _ _ k₁
    | cons h' hs =>
      refine isTrue_or (hT c E φ Ω s _ _ _ _ ok st h (G.mono (G.bind (res := r.ts φ t) H) (fun b _ Hb h₁ tk₁ k₁ => ?_) fun _ _ X => X))
      cases b with
      | false => exact ih (s := { s with heap := h₁, toks := tk₁ }) (st.kp k₁) (G.mono (res := anyI r φ (_ :: _)) Hb (fun _ _ Hu => Hu.step k₁) fun _ _ X => X.step k₁)
      | true => exact (show TsPost c s QB true from Hb) _ _ k₁
/-- the tests -/
theorem ts_sound (S : Stat (prog, w) b0 mg mb consts) (hE : SEv prog w b0 r n) (hT : STs prog w b0 r n) {e : Expr} {t : TE} (ok : c.Ok n) (st : St (prog, w) b0 c E φ Ω s.heap) (ht : CT c.env.scope e t)
    (H : G (tsI r φ t) (TsPost c s QB) (XPost c s Ex)) : wpAny (model prog w) c.A (isTrue e c.env (eval e c.env)) QB Ex s := by
  obtain ⟨n, h, o⟩ := ht.one
  have key : ∀ e', e' = e → wpAny (model prog w) c.A (isTrue e' c.env (eval e' c.env)) QB Ex s → wpAny (model prog w) c.A (isTrue e c.env (eval e c.env)) QB Ex s := fun _ q z => q ▸ z
  cases t with
  | tt i =>
    obtain ⟨o1, o2⟩ := and_ok o
    exact ts_tt hE ok st ⟨n, h, o2⟩ (testB_ok o1) H
  | cmp op a b =>
    obtain ⟨o1, o2⟩ := and_ok o
    exact key _ h (ts_cmp hE ok st (cmOf_ok op) (mkE (congrArg (kid 0) h) o1) (mkE (congrArg (kid 1) h) o2) H)
  | between a b d =>
    obtain ⟨o1, o2⟩ := and_ok o
    obtain ⟨o2, o3⟩ := and_ok o2
    exact key _ h (ts_between hE ok st (mkE (congrArg (kid 0) h) o1) (mkE (congrArg (kid 1) h) o2) (mkE (congrArg (kid 2) h) o3) H)
  | isNone a yes => exact key _ h (ts_isNone hE ok st (mkE (congrArg (kid 0) h) o) H)
  | typeIs a T yes =>
    obtain ⟨o1, o2⟩ := and_ok o
    obtain ⟨o2, o3⟩ := and_ok o2
    obtain ⟨o3, o4⟩ := and_ok o3
    exact key _ h (ts_typeIs S hE ok st (gnB_ok o1) (gnB_ok o2) (of_decide_eq_true o3) (mkE (congrArg (fun z => kid 1 (kid 0 z)) h) o4) H)
  | not t =>
    dsimp only [tsI] at H
    exact key _ h (isTrue_not (hT c E φ Ω s _ _ _ _ ok st (mkT (congrArg (kid 0) h) o) (H.bind.mono (fun b _ Hb h₁ tk₁ k₁ => (show TsPost c s QB (!b) from Hb) _ _ k₁) fun _ _ X => X)))
  | and ts => exact key _ h (ts_and hT ok (mkTs (congrArg (fun z => (look z).1) h) o) st H)
  | or ts => exact key _ h (ts_or hT ok (mkTs (congrArg (fun z => (look z).1) h) o) st H)
end
end Mine
end

section
set_option Elab.async false
namespace Mine
open PySem PySem.W PySem.Calls PyProof.Rows

section
variable {prog : Program} {w : World} {b0 : Heap} {mg mb : PySem.Str → Option Value} {consts : String → Option V} {r : Rec} {n : Nat} {c : Cx} {E : List Addr} {φ : Frm} {Ω : List (String × Addr)} {s : Shared} {Q : Value → Shared → Prop} {QB : Bool → Shared → Prop} {Ex : Value → Shared → Prop} {A : Around}

theorem St.fresh {P : Program × World} {h : Heap} (st : St P b0 c E φ Ω h) {a : Addr} (ha : h.objs.size ≤ a) : a ∉ E ∧ a ∉ c.Y Ω := by
  refine ⟨fun z => ?_, fun z => ?_⟩
  · obtain ⟨o, e⟩ := st.alive a (.inl z)
    exact absurd (Heap.lt_size e) (Nat.not_lt.mpr ha)
  · obtain ⟨o, e⟩ := st.alive a (.inr z)
    exact absurd (Heap.lt_size e) (Nat.not_lt.mpr ha)
theorem keep_up {ok : Addr → Prop} {h h' : Heap} (k : ∀ b o, h.get? b = some o → h'.get? b = some o) : UpAt ok h h' := fun b o _ e _ => k b o e

/-- the slot of a dict of our own -/
theorem tab_at {x : String} {kvs : List (PySem.Str × V)} {p : Pos} (ok : c.Ok n) (st : St (prog, w) b0 c E φ Ω s.heap) (hn : LName c.env.scope x) (hl : φ.lookup x = some (.tab kvs))
    (H : ∀ a, Ω.lookup x = some a → TabAt' (prog, w) (fun a => a ∉ E ∧ a ∉ c.Y Ω) s.heap a kvs → Q (.ref a) s) : wpAny (model prog w) c.A (eval (.Name (nm x) p) c.env) Q Ex s := by
  obtain ⟨m, cm, h1, h2, h3⟩ := st.loc
  obtain ⟨a, hΩ, hv, T⟩ := h3 x _ hl hn
  exact ld_at ok hn h1 h2 hv (H a hΩ T)
theorem view_call {x nme id T : String} {kvs : List (PySem.Str × V)} {xp ap p1 : Pos} (ok : c.Ok n) (st : St (prog, w) b0 c E φ Ω s.heap) (hn : LName c.env.scope x) (hl : φ.lookup x = some (.tab kvs)) (hline : (ap.endLine == p1.line) = true)
    (slot : PySem.Slot "dict" (nm nme) id) (ty : typeOf (.builtin id) = pure (.type "method_descriptor"))
    (call : ∀ (d : Addr) (ps : List (PySem.Str × Value)) (Q : Value → Shared → Prop), (d == sysModules) = false → s.heap.DictOf (strKind prog w) d ps → Q (.ref s.heap.objs.size) { s with heap := s.heap.push { cls := .type T, data := .fields #[.ref d] } } → wpAny (model prog w) c.A (call (.builtin id) [.ref d]) Q Ex s)
    (H : ∀ a ps ds, s.heap.DictOf (strKind prog w) a ps → RA (prog, w) (fun a => a ∉ E ∧ a ∉ c.Y Ω) s.heap (ps.map (·.2)) ds → Sz ps → kvs = (ps.map (·.1)).zip ds → Q (.ref s.heap.objs.size) { s with heap := s.heap.push { cls := .type T, data := .fields #[.ref a] } }) :
    wpAny (model prog w) c.A (eval (.Call (.Attribute (.Name (nm x) xp) (nm nme) ap) [] [] p1) c.env) Q Ex s := by
  refine wpAny_Call_method (T := "dict") (id := id) rfl rfl hline F.plainAttrs_dict slot ty ?_
  refine tab_at ok st hn hl fun a _ T => ?_
  obtain ⟨ps, ds, q1, q2, q3, q4, q5⟩ := T
  exact ⟨q1.typeIs, q1.mapOf.noDict, callWith_method0 (call a ps _ q2 q1 (H a ps ds q1 q3 q4 q5))⟩

theorem key_shape {k : PySem.Str} {v : Value} (h : (strKind prog w).is k v = true) : ∃ t, v = .str k t := Value.isStrOf_shape h
theorem ev_items {x : String} {np xp ap p1 p : Pos} (S : Stat (prog, w) b0 mg mb consts) (ok : c.Ok n) (st : St (prog, w) b0 c E φ Ω s.heap) (hg : GName c.env.scope "list") (hn : LName c.env.scope x) (hline : (ap.endLine == p1.line) = true)
    (H : G (evI consts r φ (.items x)) (EvPost (prog, w) c E Ω s Q) (XPost c s Ex)) :
    wpAny (model prog w) c.A (eval (.Call (.Name (nm "list") np) [.Call (.Attribute (.Name (nm x) xp) (nm "items") ap) [] [] p1] [] p) c.env) Q Ex s := by
  dsimp only [evI] at H
  obtain ⟨kvs, hl, H⟩ := G.onTab H
  obtain ⟨q, Hq⟩ := H.need
  refine Call_ (ld_boot S ok st hg (S.free _ (by decide)) boot_list (by decide) (callWith_type1 ?_ rfl rfl))
  refine args_cons ?_ rfl
  refine view_call (id := "dict.items") (T := "dict_items") ok st hn hl hline F.slot_dict_items F.type_dict_items (fun d ps Q lo hD hQ => call_meetsIn PySem.F.slot_dict_items hD.typeIs PySem.F.entry_dict_items (PySem.F.args_dict_items_1 _) (meets_dict_items _ d lo) ⟨⟨ps, hD⟩, hQ⟩) fun a ps ds hD ra hz hk => args_nil ?_
  obtain ⟨ep, hat⟩ := hD.dictAt
  have hl0 : a < s.heap.objs.size := hat.lt_size
  refine kdx_call (knd := strKind prog w) (kvs := ps) (ep := ep) ok.handled (r := s.heap.objs.size) (d := a) ⟨_, Heap.get?_push_size _ rfl, rfl, rfl⟩ (hat.push _) hz.1 fun h' tk acc c' as hk' hS hlen hG hacc => ?_
  have hkk : ∀ b o, s.heap.get? b = some o → h'.get? b = some o := fun b o e => hk' b o (Heap.get?_push_of_some _ e)
  have ea : acc = (as.map Value.ref).toArray := by rw [← hacc, Array.toArray_toList]
  rw [ea] at hS
  have hgt : ∀ b, (s.heap.push { cls := .type "dict_items", data := .fields #[.ref a] }).objs.size ≤ b → b ∉ E ∧ b ∉ c.Y Ω := fun b hb => st.fresh (Nat.le_trans (Nat.le_succ _) (by simpa [Heap.push] using hb))
  have rows : ∀ (as : List Addr) (ps : List (PySem.Str × Value)) (ds : List V), as.length = ps.length → RA (prog, w) (fun a => a ∉ E ∧ a ∉ c.Y Ω) s.heap (ps.map (·.2)) ds → (∀ p ∈ ps, p.1.length ≤ sizeLine) →
      (∀ (j : Nat) (b : Addr), as[j]? = some b → b ∉ E ∧ b ∉ c.Y Ω ∧ ∃ key k x, ps[j]? = some (k, x) ∧ (strKind prog w).is k key = true ∧ h'.get? b = some { cls := .type "tuple", data := .seq #[key, x] }) →
      RA (prog, w) (fun a => a ∉ E ∧ a ∉ c.Y Ω) h' (as.map Value.ref) (((ps.map (·.1)).zip ds).map fun p => V.tuple [.str p.1, p.2]) := by
    intro as
    induction as with
    | nil => intro ps ds hl ra _ _; cases ps with
      | nil => cases ra; exact .nil
      | cons => cases hl
    | cons b as ih =>
      intro ps ds hl ra hz hrow
      cases ps with
      | nil => cases hl
      | cons p ps =>
        cases ra with
        | cons r0 ra =>
          obtain ⟨o1, o2, key, k, xv, e1, e2, e3⟩ := hrow 0 b rfl
          cases e1
          obtain ⟨t, rfl⟩ := key_shape e2
          refine .cons ?_ (ih ps _ (by simpa using hl) ra (fun p hp => hz p (.tail _ hp)) fun j b hb => hrow (j + 1) b hb)
          exact .tuple (vs := [.str k t, xv]) ⟨o1, o2⟩ e3 rfl rfl (by rw [sizeLine_eq]; exact Nat.le_of_ble_eq_true rfl) (.cons (.str k t (hz _ (.head _))) (.cons (r0.mono (keep_up hkk) fun _ _ x _ => x) .nil))
  have rr := rows as ps ds hlen ra hz.2 fun j b hb => by
    have hb' : b ∈ as := List.mem_of_getElem? hb
    obtain ⟨key, k, xv, e1, e2, e3⟩ := hG.pairs j b hb
    have := hgt b (Nat.le_of_lt (hG.above b hb'))
    exact ⟨this.1, this.2, key, k, xv, e1, e2, e3⟩
  rw [← hk] at rr
  have hs2 := hgt _ (Nat.le_refl _)
  refine (show EvPost (prog, w) c E Ω s Q _ from Hq) _ _ _ (.of_keeps hkk) (.list (fun _ => hs2) hS rfl rfl ?_ (rr.weak fun _ x _ => x))
  rw [List.length_map, hlen]; exact hz.1
end
end Mine
end

section
set_option Elab.async false
namespace Mine
open PySem PySem.W PySem.Calls PyProof.Rows

theorem notHeld {o : Obj} {T : String} (h : o.cls = .type T) (h1 : T ≠ "list") (h2 : T ≠ "tuple") (h3 : T ≠ "dict") : ¬ Held o := fun z => by
  rcases z with z | z | z <;> (rw [h] at z; injection z with z; first | exact h1 z | exact h2 z | exact h3 z)
/-- an iterator that hands out no tuple of its own -/
noncomputable def Plain (o : Obj) : Prop := ∃ n, o.cls = .type n ∧ ["enumerate", "zip", "dict_itemiterator", "dict_reverseitemiterator", "odict_iterator", "itertools.zip_longest", "itertools.pairwise"].contains n = false
/-- something to walk over lies at `I` -/
inductive Src (prog : Program) (w : World) (A : Around) (ok : Addr → Prop) (fs Y : List Addr) (ds : List V) (h : Heap) (I : Addr) : Prop
  | mk (fp : List Addr) (Pv : Nat → Value → Prop) (Sv : Nat → Heap → Prop) : Walks prog w A I fp [I] ds.length Pv Sv → Sv 0 h → (∀ b ∈ fp, b ∉ fs ∧ b ∉ Y ∧ ∃ o, h.get? b = some o) → (∀ i h, Sv i h → ∃ o, h.get? I = some o ∧ ¬ Held o ∧ Plain o) → (∀ i v, Pv i v → ∃ d, ds[i]? = some d ∧ R (prog, w) ok h v d) → Src prog w A ok fs Y ds h I
section
variable {prog : Program} {w : World} {b0 : Heap} {mg mb : PySem.Str → Option Value} {consts : String → Option V} {r : Rec} {n : Nat} {c : Cx} {E : List Addr} {φ : Frm} {Ω : List (String × Addr)} {s : Shared} {Q : Value → Shared → Prop} {QB : Bool → Shared → Prop} {Ex : Value → Shared → Prop} {A : Around}

theorem St.off_fs {P : Program × World} {h : Heap} (st : St P b0 c E φ Ω h) {a : Addr} {o : Obj} {T : String} (e : h.get? a = some o) (hc : o.cls = .type T) (hT : T ≠ "frame") : a ∉ c.fs := fun z => by
  obtain ⟨o', e', hc'⟩ := st.fc a z
  rw [e] at e'; cases e'
  rw [hc] at hc'; injection hc' with q; exact hT q
theorem St.new_fs {P : Program × World} {h : Heap} (st : St P b0 c E φ Ω h) {a : Addr} (ha : h.objs.size ≤ a) : a ∉ c.fs := fun z => by
  obtain ⟨o', e', hc'⟩ := st.fc a z
  exact absurd (Heap.lt_size e') (Nat.not_lt.mpr ha)

noncomputable def ItPost (prog : Program) (w : World) (c : Cx) (E : List Addr) (Ω : List (String × Addr)) (s : Shared) (Q : Value → Shared → Prop) (u : V × Bool) : Prop := ∀ v h' tk, Kp c.fs [] s.heap h' → R (prog, w) (fun a => (u.2 = true → a ∉ E) ∧ a ∉ c.Y Ω) h' v u.1 → Q v { s with heap := h', toks := tk }
theorem evIt_sound {e : Expr} {i : IE} (hE : SEv prog w b0 r n) (ok : c.Ok n) (st : St (prog, w) b0 c E φ Ω s.heap) (he : CE c.env.scope e i) (H : G (evIt r φ i) (ItPost prog w c E Ω s Q) (XPost c s Ex)) :
    wpAny (model prog w) c.A (eval e c.env) Q Ex s := by
  have gen : G ((r.ev φ i).bind fun u => if u.2 then .ok u else .bad) (ItPost prog w c E Ω s Q) (XPost c s Ex) → wpAny (model prog w) c.A (eval e c.env) Q Ex s := by
    intro H
    refine hE c E φ Ω s _ _ _ _ ok st he (H.bind.mono (fun u _ Hu v h₁ tk₁ k₁ r₁ => ?_) fun _ _ X => X)
    rcases G.ite Hu with ⟨q, Hq⟩ | ⟨_, Hq⟩
    · exact (show ItPost prog w c E Ω s Q u from Hq) v h₁ tk₁ k₁ (r₁.weak fun a x => ⟨fun _ => (x q).1, (x q).2⟩)
    · exact Hq.elim
  by_cases hv : ∃ x, i = .var x
  · obtain ⟨x, rfl⟩ := hv
    obtain ⟨n', h, o⟩ := he.one
    rw [← h]
    have hn := lnB_ok o
    · obtain ⟨m, cm, h1, h2, h3⟩ := st.loc
      dsimp only [evIt] at H
      cases hl : φ.lookup x with
      | none => rw [hl] at H; exact H.elim
      | some sl =>
        rw [hl] at H
        cases sl with
        | val d f =>
          obtain ⟨v, e, rv⟩ := h3 x _ hl hn
          exact ld_at ok hn h1 h2 e ((show ItPost prog w c E Ω s Q (d, f) from H) v s.heap s.toks .refl rv)
        | acc => exact (show False from H).elim
        | tab => exact (show False from H).elim
        | gone => exact (show False from H).elim
  · refine gen ?_
    have : evIt r φ i = (r.ev φ i).bind fun u => if u.2 then .ok u else .bad := by
      unfold evIt
      split
      · exact absurd ⟨_, rfl⟩ hv
      · rfl
    rw [this] at H; exact H

/-- where a walk starts -/
noncomputable def SrcPost (prog : Program) (w : World) (c : Cx) (E : List Addr) (Ω : List (String × Addr)) (s : Shared) (Q : Value → Shared → Prop) (us : List (V × Bool)) : Prop :=
  ∀ I h' tk ds f, us = ds.map (fun d => (d, f)) → ds.length ≤ sizeLine → Kp c.fs [] s.heap h' → s.heap.get? I = none → Src prog w c.A (fun a => (f = true → a ∉ E) ∧ a ∉ c.Y Ω) c.fs (c.Y Ω) ds h' I → Q (.ref I) { s with heap := h', toks := tk }
theorem gone_of_le {h : Heap} {a : Addr} (ha : h.objs.size ≤ a) : h.get? a = none := by
  cases e : h.get? a with
  | none => rfl
  | some o => exact absurd (Heap.lt_size e) (Nat.not_lt.mpr ha)
theorem none_back {fs : List Addr} {h h' : Heap} {a : Addr} (k : Kp fs [] h h') (e : h'.get? a = none) : h.get? a = none := by
  cases q : h.get? a with
  | none => rfl
  | some o => obtain ⟨sl, q'⟩ := k.there q (by simp); rw [e] at q'; cases q'
theorem src_list {ok : Addr → Prop} {fs Y : List Addr} {h : Heap} {a : Addr} {vs : List Value} {ds : List V} (hh : A.handled = none) (la : ListAt h a vs) (ra : RA (prog, w) ok h vs ds) (hf : a ∉ fs ∧ a ∉ Y) (hI : h.objs.size ∉ fs ∧ h.objs.size ∉ Y) :
    Src prog w A ok fs Y ds (h.push { cls := .type "list_iterator", data := .fields #[.ref a, .int 0 0] }) h.objs.size := by
  obtain ⟨o, k, e, hc, hd, hs⟩ := la
  have hlt : a < h.objs.size := Heap.lt_size e
  have W := Walks.list (prog := prog) (w := w) hh h.objs.size a (Nat.ne_of_lt hlt) vs.toArray
  rw [show vs.toArray.size = ds.length by rw [List.size_toArray, ra.length]] at W
  refine ⟨_, _, _, W, ⟨⟨_, Heap.get?_push_size _ rfl, rfl, rfl⟩, ⟨o, Heap.get?_push_of_some _ e, hc, k, hd⟩⟩, fun b hb => ?_, fun i h x => let ⟨⟨o, ho, hc, _⟩, _⟩ := x; ⟨o, ho, notHeld hc (by decide) (by decide) (by decide), _, hc, by decide⟩, fun i v hv => ?_⟩
  · simp at hb
    rcases hb with rfl | rfl
    · exact ⟨hI.1, hI.2, _, Heap.get?_push_size _ rfl⟩
    · exact ⟨hf.1, hf.2, _, Heap.get?_push_of_some _ e⟩
  · obtain ⟨d, hd, rd⟩ := ra.getV (show vs[i]? = some v by simpa using hv)
    exact ⟨d, hd, rd.mono (keep_up fun b o e => Heap.get?_push_of_some _ e) fun _ _ x _ => x⟩
theorem src_rev {ok : Addr → Prop} {fs Y : List Addr} {h : Heap} {a : Addr} {vs : List Value} {ds : List V} (hh : A.handled = none) (la : ListAt h a vs) (ra : RA (prog, w) ok h vs ds) (hf : a ∉ fs ∧ a ∉ Y) (hI : h.objs.size ∉ fs ∧ h.objs.size ∉ Y) :
    Src prog w A ok fs Y ds.reverse (h.push (revObj a ((vs.toArray.size : Int) - 1))) h.objs.size := by
  obtain ⟨o, k, e, hc, hd, hs⟩ := la
  have hlt : a < h.objs.size := Heap.lt_size e
  have W := Walks.listRev (prog := prog) (w := w) hh h.objs.size a (Nat.ne_of_lt hlt) vs.toArray
  have hlen : vs.toArray.size = ds.reverse.length := by rw [List.size_toArray, List.length_reverse, ra.length]
  rw [hlen] at W
  refine ⟨_, _, _, W.bound, ⟨Nat.zero_le _, ⟨_, Heap.get?_push_size _ rfl, rfl, by rw [hlen]; simp [revObj]⟩, ⟨o, Heap.get?_push_of_some _ e, hc, k, hd⟩⟩, fun b hb => ?_, fun i h x => let ⟨_, ⟨o, ho, hc, _⟩, _⟩ := x; ⟨o, ho, notHeld hc (by decide) (by decide) (by decide), _, hc, by decide⟩, fun i v hv => ?_⟩
  · simp at hb
    rcases hb with rfl | rfl
    · exact ⟨hI.1, hI.2, _, Heap.get?_push_size _ rfl⟩
    · exact ⟨hf.1, hf.2, _, Heap.get?_push_of_some _ e⟩
  · obtain ⟨hi, hv⟩ := hv
    have hi' : i < ds.length := by simpa using hi
    have hv' : vs[ds.length - 1 - i]? = some v := by simpa using hv
    obtain ⟨d, hd, rd⟩ := ra.getV hv'
    exact ⟨d, by rw [List.getElem?_reverse hi']; exact hd, rd.mono (keep_up fun b o e => Heap.get?_push_of_some _ e) fun _ _ x _ => x⟩
/-- what a `for` walks over -/
theorem iter_sound {e : Expr} {it : It} (S : Stat (prog, w) b0 mg mb consts) (hE : SEv prog w b0 r n) (ok : c.Ok n) (st : St (prog, w) b0 c E φ Ω s.heap) (hi : CI c.env.scope e it) (hs : it.simple = true)
    (H : G (iterI r φ it) (SrcPost prog w c E Ω s Q) (XPost c s Ex)) : wpAny (model prog w) c.A (eval e c.env) (fun v s₁ => wpAny (model prog w) c.A (pyIter v) Q Ex s₁) Ex s := by
  obtain ⟨n', h, o⟩ := hi.one
  cases it with
  | enum i => cases hs
  | plain i =>
    have he : CE c.env.scope e i := ⟨n', h, o⟩
    dsimp only [iterI] at H
    refine evIt_sound hE ok st he (H.bind.mono (fun u _ Hu v h₁ tk₁ k₁ r₁ => ?_) fun _ _ X => X)
    have st₁ := st.kp k₁
    have hN := st₁.fresh (Nat.le_refl _)
    have hNf := st₁.new_fs (Nat.le_refl _)
    obtain ⟨d, f⟩ := u
    cases d <;> first | exact (show False from Hu).elim | skip
    · rename_i ds _
      have Hu' : SrcPost prog w c E Ω s Q (ds.map fun d => (d, f)) := Hu
      obtain ⟨a, vs, rfl, h0, hT, hsz, ra⟩ := r₁.inv_tuple
      obtain ⟨o, e, hc, k, hd⟩ := hT
      refine wpAny_pyIter_tuple ⟨o, e, hc, k, hd⟩ (Hu' _ _ _ ds f rfl (by rw [← ra.length]; exact hsz) (k₁.trans (push_kp _)) (none_back k₁ (gone_of_le (Nat.le_refl _))) ?_)
      have hlt : a < h₁.objs.size := Heap.lt_size e
      have W := Walks.tuple (prog := prog) (w := w) ok.handled h₁.objs.size a (Nat.ne_of_lt hlt) vs.toArray
      rw [show vs.toArray.size = ds.length by rw [List.size_toArray, ra.length]] at W
      refine ⟨_, _, _, W, ⟨⟨_, Heap.get?_push_size _ rfl, rfl, rfl⟩, ⟨o, Heap.get?_push_of_some _ e, hc, k, hd⟩⟩, fun b hb => ?_, fun i h x => let ⟨⟨o, ho, hc, _⟩, _⟩ := x; ⟨o, ho, notHeld hc (by decide) (by decide) (by decide), _, hc, by decide⟩, fun i v hv => ?_⟩
      · simp at hb
        rcases hb with rfl | rfl
        · exact ⟨hNf, hN.2, _, Heap.get?_push_size _ rfl⟩
        · exact ⟨st₁.off_fs e hc (by decide), h0.2, _, Heap.get?_push_of_some _ e⟩
      · obtain ⟨d, hd, rd⟩ := ra.getV (show vs[i]? = some v by simpa using hv)
        exact ⟨d, hd, rd.mono (keep_up fun b o e => Heap.get?_push_of_some _ e) fun _ _ x _ => x⟩
    · rename_i ds _
      have Hu' : SrcPost prog w c E Ω s Q (ds.map fun d => (d, f)) := Hu
      obtain ⟨a, vs, rfl, h0, la, ra⟩ := r₁.inv_list
      obtain ⟨o, k, e, hc, hd, hsz⟩ := id la
      exact wpAny_pyIter_list la.isList (Hu' _ _ _ ds f rfl (by rw [← ra.length]; exact hsz) (k₁.trans (push_kp _)) (none_back k₁ (gone_of_le (Nat.le_refl _))) (src_list ok.handled la ra ⟨st₁.off_fs e hc (by decide), h0.2⟩ ⟨hNf, hN.2⟩))
  | rev i =>
    obtain ⟨o1, o2⟩ := and_ok o
    have he := mkE (congrArg (kid 1) h) o2
    have hg := gnB_ok o1
    rw [← h]
    dsimp only [iterI] at H
    refine Call_ (ld_boot S ok st hg (S.free _ (by decide)) boot_rev (by decide) (callWith_type1 ?_ (he.star _ _) rfl))
    refine args_cons ?_ (he.star _ _)
    refine evIt_sound hE ok st he (H.bind.mono (fun u _ Hu v h₁ tk₁ k₁ r₁ => args_nil ?_) fun _ _ X => X)
    have st₁ := st.kp k₁
    have hN := st₁.fresh (Nat.le_refl _)
    have hNf := st₁.new_fs (Nat.le_refl _)
    obtain ⟨a, vs, ds, rfl, h0, la, ra, Hu⟩ := Hu.rList r₁
    have Hu' : SrcPost prog w c E Ω s Q (ds.reverse.map fun d => (d, u.2)) := Hu
    obtain ⟨o, k, e, hc, hd, hsz⟩ := id la
    have src := src_rev (A := c.A) ok.handled la ra ⟨st₁.off_fs e hc (by decide), h0.2⟩ ⟨hNf, hN.2⟩
    exact call_reversed_list la.isList (wpAny_pyIter_revIter ⟨_, Heap.get?_push_size _ rfl, rfl, rfl⟩ (Hu' _ _ _ ds.reverse u.2 rfl (by rw [List.length_reverse, ← ra.length]; exact hsz) (k₁.trans (push_kp _)) (none_back k₁ (gone_of_le (Nat.le_refl _))) src))
  | range i =>
    obtain ⟨o1, o2⟩ := and_ok o
    have he := mkE (congrArg (kid 1) h) o2
    have hg := gnB_ok o1
    rw [← h]
    dsimp only [iterI] at H
    refine call1_t S hE ok st hg (by decide) boot_range (by decide) he (H.bind.mono (fun u _ Hu v h₁ tk₁ k₁ r₁ => ?_) fun _ _ X => X)
    have st₁ := st.kp k₁
    obtain ⟨m, t, rfl, Hu⟩ := Hu.rInt r₁
    obtain ⟨q, Hq⟩ := Hu.need
    have Hq' : SrcPost prog w c E Ω s Q ((List.range m.toNat).map fun (i : Nat) => (V.int (i : Int), true)) := Hq
    refine call_range_1 (wpAny_pyIter_range (IsRange.new ..) (small_one (by decide) (by decide) (by omega) (by omega)) ?_)
    have hr : Builtin.Range.rangeSize 0 m 1 = ((m.toNat : Nat) : Int) := by rw [rangeSize_nat]; simp
    refine Hq' _ _ _ ((List.range m.toNat).map fun (i : Nat) => V.int (i : Int)) true (by simp) ?_ ((k₁.trans (push_kp _)).trans (push_kp _)) ?_ ?_
    · rw [List.length_map, List.length_range, sizeLine_eq]; omega
    · exact none_back (k₁.trans (push_kp _)) (gone_of_le (Nat.le_refl _))
    · have st₂ := st₁.kp (push_kp (h := h₁) { cls := .type "range", data := .fields #[.int 0 tk₁, .int m t, .int 1 (tk₁ + 1)] })
      have W := Walks.range (prog := prog) (w := w) ok.handled (h₁.push { cls := .type "range", data := .fields #[.int 0 tk₁, .int m t, .int 1 (tk₁ + 1)] }).objs.size 0 1 m.toNat
      rw [show m.toNat = ((List.range m.toNat).map fun (i : Nat) => V.int (i : Int)).length by simp] at W
      refine ⟨_, _, _, W.bound, ?_, fun b hb => ?_, fun i h x => ⟨_, x, notHeld rfl (by decide) (by decide) (by decide), _, rfl, by decide⟩, fun i v hv => ?_⟩
      · show Heap.get? _ _ = some _
        rw [Heap.get?_push_size _ rfl, hr]
        simp
      · rw [List.mem_singleton] at hb
        subst hb
        exact ⟨st₂.new_fs (Nat.le_refl _), (st₂.fresh (Nat.le_refl _)).2, _, Heap.get?_push_size _ rfl⟩
      · obtain ⟨hi, tk, rfl⟩ := hv
        simp at hi
        refine ⟨.int (i : Int), by simp [hi], ?_⟩
        have : (0 : Int) + (i : Int) * 1 = (i : Int) := by omega
        rw [this]; exact .int _ _
end
end Mine
end

section
set_option Elab.async false
namespace Mine
open PySem PySem.W PySem.Calls PyProof.Rows

/-! ## the cells that a comprehension takes along -/
noncomputable def closL (cells : List (PySem.Str × Addr)) : List (PySem.Str × NameKind) → List (PySem.Str × Addr) → List (PySem.Str × Addr)
  | [], acc => acc
  | (n, k) :: r, acc => if k == .free then closL cells r ((n, (cells.lookup n).getD 0) :: acc) else closL cells r acc
theorem clos_loop {env : Env} (names : List (PySem.Str × NameKind)) : ∀ (acc : List (PySem.Str × Addr)), (∀ y ∈ names, y.2 = .free → ∃ k, env.cells.lookup y.1 = some k) →
    (forIn names acc fun x r => match x with | (name, kind) => if (kind == NameKind.free) = true then do let a ← cellOf env name; pure (ForInStep.yield ((name, a) :: r)) else pure (ForInStep.yield r) : Sem (List (PySem.Str × Addr))) = pure (closL env.cells names acc) := by
  induction names with
  | nil => exact fun _ _ => rfl
  | cons p r ih =>
    obtain ⟨n, k⟩ := p
    intro acc h
    rw [List.forIn_cons]
    cases hk : k == NameKind.free with
    | true =>
      obtain ⟨a, ha⟩ := h (n, k) (.head _) (by simpa using hk)
      have e : cellOf env n = pure a := by unfold cellOf; rw [ha]
      simp only [hk, if_true, e, pure_bind, closL, ha, Option.getD_some]
      exact ih _ fun y hy => h y (.tail _ hy)
    | false =>
      simp only [hk, Bool.false_eq_true, if_false, pure_bind, closL]
      exact ih _ fun y hy => h y (.tail _ hy)
theorem clos_eq {scope : Scope} {env : Env} (h : ∀ y ∈ scope.names, y.2 = .free → ∃ k, env.cells.lookup y.1 = some k) : closureFor scope env = pure (closL env.cells scope.names []) := by
  unfold closureFor
  have := clos_loop (env := env) scope.names [] h
  simp only at this ⊢
  rw [this]; rfl
theorem clos_mem {cells : List (PySem.Str × Addr)} {n : PySem.Str} {a : Addr} (names : List (PySem.Str × NameKind)) : ∀ (acc : List (PySem.Str × Addr)), (n, a) ∈ closL cells names acc → (n, a) ∈ acc ∨ ((n, NameKind.free) ∈ names ∧ a = (cells.lookup n).getD 0) := by
  induction names with
  | nil => exact fun _ h => .inl h
  | cons p r ih =>
    obtain ⟨n', k⟩ := p
    intro acc h
    unfold closL at h
    split at h
    · rename_i hk
      rcases ih _ h with h | h
      · rcases List.mem_cons.mp h with h | h
        · cases h; have : k = .free := by simpa using hk
          subst this; exact .inr ⟨.head _, rfl⟩
        · exact .inl h
      · exact .inr ⟨.tail _ h.1, h.2⟩
    · rcases ih _ h with h | h
      · exact .inl h
      · exact .inr ⟨.tail _ h.1, h.2⟩
theorem clos_has {cells : List (PySem.Str × Addr)} {n : PySem.Str} (names : List (PySem.Str × NameKind)) : ∀ (acc : List (PySem.Str × Addr)), ((n, NameKind.free) ∈ names ∨ ∃ a, (n, a) ∈ acc) → ∃ a, (n, a) ∈ closL cells names acc := by
  induction names with
  | nil =>
    intro acc h
    rcases h with h | h
    · cases h
    · exact h
  | cons p r ih =>
    obtain ⟨n', k⟩ := p
    intro acc h
    unfold closL
    split
    · rename_i hk
      refine ih _ ?_
      rcases h with h | ⟨a, h⟩
      · rcases List.mem_cons.mp h with h | h
        · cases h; exact .inr ⟨_, .head _⟩
        · exact .inl h
      · exact .inr ⟨a, .tail _ h⟩
    · rename_i hk
      refine ih _ ?_
      rcases h with h | h
      · rcases List.mem_cons.mp h with h | h
        · cases h; exact absurd rfl hk
        · exact .inl h
      · exact .inr h
theorem look_mem {α β : Type} [BEq α] [LawfulBEq α] {n : α} {a : β} {l : List (α × β)} (h : l.lookup n = some a) : (n, a) ∈ l := by
  induction l with
  | nil => cases h
  | cons p l ih =>
    obtain ⟨n', b⟩ := p
    rw [List.lookup_cons] at h
    split at h
    · rename_i e; cases h; rw [eq_of_beq e]; exact .head _
    · exact .tail _ (ih h)
theorem lookup_mem {β : Type} {n : PySem.Str} {a : β} {l : List (PySem.Str × β)} (h : l.lookup n = some a) : (n, a) ∈ l := look_mem h
theorem mem_lookup {β : Type} {n : PySem.Str} {a : β} {l : List (PySem.Str × β)} (h : (n, a) ∈ l) : ∃ b, l.lookup n = some b := by
  induction l with
  | nil => cases h
  | cons p l ih =>
    obtain ⟨n', b⟩ := p
    rw [List.lookup_cons]
    split
    · exact ⟨_, rfl⟩
    · rename_i e
      rcases List.mem_cons.mp h with h | h
      · cases h; simp at e
      · exact ih h

noncomputable def Cx.comp (c : Cx) (cs : Scope) (C : Addr) : Cx := ⟨compEnvC cs (closL c.env.cells cs.names []) C c.env, c.A, c.stk⟩
section
variable {prog : Program} {w : World} {b0 : Heap} {mg mb : PySem.Str → Option Value} {consts : String → Option V} {r : Rec} {n : Nat} {c : Cx} {E : List Addr} {φ : Frm} {Ω : List (String × Addr)} {s : Shared} {Q : Value → Shared → Prop} {QB : Bool → Shared → Prop} {Ex : Value → Shared → Prop} {A : Around}
variable {cs : Scope} {x : String} {C : Addr}

theorem relab_eq (ok : c.Ok n) : relabel cs c.env = relab cs c.env.scope := by
  unfold relabel relab
  have : (c.env.scope.kind == ScopeKind.function) = true := by rw [ok.kind]; rfl
  simp only [this, Bool.and_true, Env.kindOf]
theorem comp_scope (ok : c.Ok n) : (c.comp cs C).env.scope = relab cs c.env.scope := relab_eq ok
/-- a name of the comprehension's scope: its variable, or a cell of the def's -/
theorem relab_name {sc : Scope} {y : PySem.Str} {k : NameKind} (h : (relab cs sc).names.lookup y = some k) : ∃ k', (y, k') ∈ cs.names ∧ ((k' = .free ∧ sc.names.lookup y = some .cell ∧ k = .cell) ∨ k' = k) := by
  have hm := lookup_mem h
  unfold relab at hm
  obtain ⟨p, hp, e⟩ := List.mem_map.mp hm
  obtain ⟨y', k'⟩ := p
  dsimp only at e
  split at e
  · rename_i q
    cases e
    simp only [Bool.and_eq_true, beq_iff_eq] at q
    exact ⟨k', hp, .inl ⟨q.1, q.2, rfl⟩⟩
  · cases e; exact ⟨k, hp, .inr rfl⟩
theorem comp_ok (ok : c.Ok n) (hsc : CompSc cs c.env.scope x) : (c.comp cs C).Ok n where
  kind := hsc.kind
  globals := ok.globals
  builtins := ok.builtins
  frames := ok.frames
  handled := ok.handled
  depth := ok.depth
  units := ok.units
  cells := fun y h => by
    rw [comp_scope ok] at h
    obtain ⟨k', hm, h | h⟩ := relab_name h
    · rw [h.1] at hm
      obtain ⟨a, ha⟩ := clos_has (cells := c.env.cells) cs.names [] (.inl hm)
      exact mem_lookup ha
    · subst h; exact absurd rfl (hsc.nocell _ hm)
theorem clos_cell (ok : c.Ok n) (hsc : CompSc cs c.env.scope x) {y : PySem.Str} {a : Addr} (h : (closL c.env.cells cs.names []).lookup y = some a) : c.env.cells.lookup y = some a := by
  rcases clos_mem _ _ (lookup_mem h) with h | ⟨h, e⟩
  · cases h
  · obtain ⟨k, hk⟩ := ok.cells _ (hsc.free _ h rfl)
    rw [hk] at e; rw [hk, e]; rfl
theorem clos_pure (ok : c.Ok n) (hsc : CompSc cs c.env.scope x) : closureFor cs c.env = pure (closL c.env.cells cs.names []) := clos_eq fun y hy hf => ok.cells _ (hsc.free y hy hf)
theorem upd_lookup {x y : String} {sl : Slot} {φ : Frm} : (upd x sl φ).lookup y = if y = x then some sl else φ.lookup y := by
  induction φ with
  | nil =>
    unfold upd
    rw [List.lookup_cons]
    by_cases h : y = x
    · subst h; simp
    · rw [if_neg h, beq_eq_false_iff_ne.mpr h]
  | cons p r ih =>
    obtain ⟨z, s⟩ := p
    unfold upd
    split
    · rename_i hz
      subst hz
      rw [List.lookup_cons, List.lookup_cons]
      by_cases h : y = z
      · subst h; simp
      · rw [if_neg h, beq_eq_false_iff_ne.mpr h]
    · rename_i hz
      rw [List.lookup_cons, List.lookup_cons, ih]
      by_cases h : y = z
      · subst h; simp [hz]
      · rw [beq_eq_false_iff_ne.mpr h]
theorem vals_lookup {y : String} {φ : Frm} : (vals φ).lookup y = (φ.lookup y).map Slot.kept := by
  induction φ with
  | nil => rfl
  | cons p r ih =>
    obtain ⟨z, s⟩ := p
    show ((z, s.kept) :: vals r).lookup y = _
    rw [List.lookup_cons, List.lookup_cons, ih]
    split <;> rfl
theorem own_comp (ok : c.Ok n) (hsc : CompSc cs c.env.scope x) {a : Addr} (h : a ∈ (c.comp cs C).Y []) : a = C ∨ a ∈ c.Y Ω := by
  unfold Cx.Y Cx.own at h
  simp only [List.map_nil, List.append_nil] at h
  rcases List.mem_cons.mp h with h | h
  · exact .inl h
  · obtain ⟨⟨y, a'⟩, hp, rfl⟩ := List.mem_map.mp h
    have hp' : (y, a') ∈ closL c.env.cells cs.names [] := hp
    rcases clos_mem _ _ hp' with h | ⟨h, e⟩
    · cases h
    · obtain ⟨k, hk⟩ := ok.cells _ (hsc.free _ h rfl)
      rw [hk] at e
      right
      unfold Cx.Y Cx.own
      refine List.mem_append_left _ (.tail _ (List.mem_map.mpr ⟨(y, k), lookup_mem hk, e.symm⟩))
/-- the state inside a comprehension -/
theorem comp_st {h h₁ h' : Heap} {m : PySem.Str → Option Value} {v : Value} {d : V} {f : Bool} {D : Addr} (ok : c.Ok n) (hsc : CompSc cs c.env.scope x) (st : St (prog, w) b0 c E φ Ω h) (k : Kp c.fs [] h h') (hC : h.get? C = none) (hD : h.get? D = none)
    (hn : h'.Ns C m) (hm : m (nm x) = some v) (hDa : ∃ o, h'.get? D = some o) (hC₁ : h₁.get? C = none) (hD₁ : h₁.get? D = none) (ku : ∀ b o, h₁.get? b = some o → Held o → b ∉ c.Y Ω → h'.get? b = some o) (rv : R (prog, w) (fun a => (f = true → a ∉ E) ∧ a ∉ c.Y Ω) h₁ v d) :
    St (prog, w) b0 (c.comp cs C) (D :: (E ++ c.Y Ω)) (upd x (.val d f) (vals φ)) [] h' := by
  have st' := st.kp k
  obtain ⟨m₀, cm, h1, h2, h3⟩ := st.loc
  have ne : ∀ {a o}, h.get? a = some o → a ≠ C ∧ a ≠ D := fun {a o} e => ⟨fun z => (by rw [z, hC] at e; cases e), fun z => (by rw [z, hD] at e; cases e)⟩
  refine ⟨st'.stay, st'.ff, st'.fc, ⟨m, cm, hn, fun y a hy => ?_, fun y sl hl hy => ?_⟩, fun a ha => ?_, fun a ha => ?_⟩
  · obtain ⟨o, e', hd⟩ := h2 y a (clos_cell ok hsc hy)
    obtain ⟨sl, e''⟩ := k.there e' (by simp)
    exact ⟨_, e'', hd⟩
  · rw [comp_scope ok] at hy
    rw [upd_lookup] at hl
    by_cases e : y = x
    · subst e
      rw [if_pos rfl] at hl
      cases hl
      have hkx : atName (c.comp cs C) m cm (nm y) = m (nm y) := by
        unfold atName Env.kindOf
        rw [show (c.comp cs C).env.scope.names.lookup (nm y) = some .local from lookup_relabel_local hsc.var]
      refine ⟨v, hkx.trans hm, rv.mono (fun b o hb e hh => ku b o e hh hb.2) fun a o ha e => ⟨fun hf z => ?_, fun z => ?_⟩⟩
      · rcases List.mem_cons.mp z with z | z
        · rw [z, hD₁] at e; cases e
        · rcases List.mem_append.mp z with z | z
          · exact ha.1 hf z
          · exact ha.2 z
      · rcases own_comp (Ω := Ω) ok hsc z with z | z
        · rw [z, hC₁] at e; cases e
        · exact ha.2 z
    · rw [if_neg e, vals_lookup] at hl
      cases hq : φ.lookup y with
      | none => rw [hq] at hl; cases hl
      | some sl₀ =>
        rw [hq] at hl
        cases hl
        cases sl₀ with
        | acc => trivial
        | tab => trivial
        | gone => trivial
        | val d₀ f₀ =>
          have hcell : c.env.scope.names.lookup (nm y) = some .cell ∧ (c.comp cs C).env.scope.names.lookup (nm y) = some .cell := by
            rcases hy.1 with hl | hl
            · obtain ⟨k', hm', hh | hh⟩ := relab_name hl
              · exact nomatch hh.2.2
              · subst hh
                rcases hsc.one _ hm' rfl with z | z
                · exact absurd (nm_inj z) e
                · exact absurd (nm_inj z) hy.2.2
            · obtain ⟨k', hm', hh | hh⟩ := relab_name hl
              · exact ⟨hh.2.1, by rw [comp_scope ok]; exact hl⟩
              · subst hh; exact absurd rfl (hsc.nocell _ hm')
          obtain ⟨v₀, hv₀, r₀⟩ := h3 y _ hq ⟨.inr hcell.1, hy.2⟩
          have e1 : atName c m₀ cm (nm y) = cm (nm y) := by unfold atName Env.kindOf; rw [hcell.1]
          have e2 : atName (c.comp cs C) m cm (nm y) = cm (nm y) := by unfold atName Env.kindOf; rw [hcell.2]
          refine ⟨v₀, e2.trans (e1.symm.trans hv₀), r₀.mono (k.up fun _ _ => by simp) fun a o ha e => ⟨fun hf z => ?_, fun z => ?_⟩⟩
          · rcases List.mem_cons.mp z with z | z
            · exact (ne e).2 z
            · rcases List.mem_append.mp z with z | z
              · exact ha.1 hf z
              · exact ha.2 z
          · rcases own_comp (Ω := Ω) ok hsc z with z | z
            · exact (ne e).1 z
            · exact ha.2 z
  · rcases ha with ha | ha
    · rcases List.mem_cons.mp ha with ha | ha
      · rw [ha]; exact hDa
      · rcases List.mem_append.mp ha with ha | ha
        · exact st'.alive a (.inl ha)
        · exact st'.alive a (.inr ha)
    · rcases own_comp (Ω := Ω) ok hsc ha with ha | ha
      · obtain ⟨o, _, _, e, _⟩ := hn; rw [ha]; exact ⟨o, e⟩
      · exact st'.alive a (.inr ha)
  · have off : ∀ {a}, h.get? a = none → b0.get? a = none := fun {a} e => by
      cases q : b0.get? a with
      | none => rfl
      | some o => rw [st.stay a o q] at e; cases e
    rcases ha with ha | ha
    · rcases List.mem_cons.mp ha with ha | ha
      · rw [ha]; exact off hD
      · rcases List.mem_append.mp ha with ha | ha
        · exact st.off a (.inl ha)
        · exact st.off a (.inr ha)
    · rcases own_comp (Ω := Ω) ok hsc ha with ha | ha
      · rw [ha]; exact off hC
      · exact st.off a (.inr ha)
end
end Mine
end

section
set_option Elab.async false
namespace Mine
open PySem PySem.W PySem.Calls PyProof.Rows

section
variable {prog : Program} {w : World} {b0 : Heap} {mg mb : PySem.Str → Option Value} {consts : String → Option V} {r : Rec} {n : Nat} {c : Cx} {E : List Addr} {φ : Frm} {Ω : List (String × Addr)} {s : Shared} {Q : Value → Shared → Prop} {QB : Bool → Shared → Prop} {Ex : Value → Shared → Prop} {A : Around}
variable {cs : Scope} {x : String}

theorem Kp.off {fs Y : List Addr} {h h' : Heap} {b : Addr} {o : Obj} (k : Kp fs Y h h') (e : h.get? b = some o) (hb : b ∉ Y) (hf : b ∉ fs) : h'.get? b = some o := by
  rcases k b o e hb with e' | ⟨hm, _⟩
  · exact e'
  · exact absurd hm hf
/-- the tests of a comprehension, its condition in the small language -/
noncomputable def CIf (sc : Scope) (ifs : List Expr) (cond : Option TE) : Prop := (ifs = [] ∧ cond = none) ∨ ∃ t ti, ifs = [t] ∧ cond = some ti ∧ CT sc t ti
theorem compI_cons {r : Rec} {φ : Frm} {elt : IE} {x : String} {cond : Option TE} {u : V × Bool} {us : List (V × Bool)} {es : List V} (h : compI r φ elt x cond (u :: us) = .ok es) :
    (condI r (upd x (.val u.1 u.2) φ) cond = .ok true ∧ ∃ y e es', r.ev (upd x (.val u.1 u.2) φ) elt = .ok y ∧ fzV y = .ok e ∧ compI r φ elt x cond us = .ok es' ∧ es = e :: es') ∨ (condI r (upd x (.val u.1 u.2) φ) cond = .ok false ∧ compI r φ elt x cond us = .ok es) := by
  unfold compI at h
  cases hc : condI r (upd x (.val u.1 u.2) φ) cond with
  | bad => rw [hc] at h; cases h
  | exc m => rw [hc] at h; cases h
  | ok b =>
    rw [hc] at h
    cases b with
    | false => exact .inr ⟨rfl, h⟩
    | true =>
      refine .inl ⟨rfl, ?_⟩
      dsimp only at h
      cases he : r.ev (upd x (.val u.1 u.2) φ) elt with
      | bad => rw [he] at h; cases h
      | exc m => rw [he] at h; cases h
      | ok y =>
        rw [he] at h
        dsimp only [Res.bind] at h
        cases hf : fzV y with
        | bad => rw [hf] at h; cases h
        | exc m => rw [hf] at h; cases h
        | ok e =>
          rw [hf] at h
          dsimp only at h
          cases hr : compI r φ elt x cond us with
          | bad => rw [hr] at h; cases h
          | exc m => rw [hr] at h; cases h
          | ok es' => rw [hr] at h; cases h; exact ⟨y, e, es', rfl, hf, rfl, rfl⟩
theorem fz_R {u : V × Bool} {d : V} {ok : Addr → Prop} {P : Program × World} {h : Heap} {v : Value} (hf : fzV u = .ok d) (rv : R P (fun a => u.2 = true → ok a) h v u.1) : R P ok h v d := by
  unfold fzV at hf
  split at hf
  · rename_i q
    cases hf
    rcases Bool.or_eq_true_iff.mp q with q | q
    · exact rv.weak fun _ x => x q
    · exact rv.atom_any q
  · cases hf

inductive CInv (prog : Program) (w : World) (r : Rec) (φ : Frm) (ei : IE) (x : String) (cond : Option TE) (f : Bool) (ds es : List V) (ok : Addr → Prop) (fs : List Addr) (I D C : Addr) (h₁ : Heap) (Sv : Nat → Heap → Prop) (s : Shared) (k : Nat) (s' : Shared) : Prop
  | mk (h' : Heap) (tk : Nat) (m' : PySem.Str → Option Value) (ys : Array Value) (es₁ es₂ : List V) (i : Nat) : s' = { s with heap := h', toks := tk } → i ≤ ds.length → k = ds.length + 1 - i → Sv i h' → h'.PlainList D ys → h'.Ns C m' →
      RA (prog, w) ok h' ys.toList es₁ → compI r φ ei x cond ((ds.drop i).map fun d => (d, f)) = .ok es₂ → es = es₁ ++ es₂ → Kp fs [I] h₁ h' → ys.size ≤ i → CInv prog w r φ ei x cond f ds es ok fs I D C h₁ Sv s k s'
theorem comp_blk {elt iter : Expr} {px p : Pos} {ifs : List Expr} {ei : IE} {cond : Option TE} {es ds : List V} {f : Bool} {I : Addr} {h₁ : Heap} {tk₁ : Nat} {RR : Value → Addr → Result → Shared → Prop}
    (hE : SEv prog w b0 r n) (hT : STs prog w b0 r n) (ok : c.Ok n) (hsc : CompSc cs c.env.scope x) (st : St (prog, w) b0 c E φ Ω s.heap) (he : CE (relab cs c.env.scope) elt ei) (hc : CIf (relab cs c.env.scope) ifs cond)
    (k₁ : Kp c.fs [] s.heap h₁) (hI : s.heap.get? I = none) (src : Src prog w c.A (fun a => (f = true → a ∉ E) ∧ a ∉ c.Y Ω) c.fs (c.Y Ω) ds h₁ I) (hlen : ds.length ≤ sizeLine)
    (H : compI r (vals φ) ei x cond (ds.map fun d => (d, f)) = .ok es)
    (hRR : ∀ D C h' tk m', D ≠ C → s.heap.get? D = none → s.heap.get? C = none → h'.Ns C m' → R (prog, w) (fun a => a ∉ E ∧ a ∉ c.Y Ω ∧ a ≠ C) h' (.ref D) (.list es) → Kp c.fs [] s.heap h' → RR (.ref D) C (.ok .next) { s with heap := h', toks := tk }) :
    wpAny (model prog w) c.A (newList []) (fun acc s₃ => wpAny (model prog w) c.A (newFunctionEnv cs c.env.globals (closL c.env.cells cs.names []) [] c.env.qual none .none (some c.env)) (fun cenv s₄ =>
      codeAny (model prog w) c.A (.compStart (.ListComp elt [⟨.Name (nm x) px, iter, ifs, 0⟩] cs p) 0 (.ref I) acc { cenv with scope := relabel cs c.env }) (RR acc cenv.locals) s₄) Ex s₃) Ex { s with heap := h₁, toks := tk₁ } := by
  obtain ⟨fp, Pv, Sv, W, hst, hfp, hheld, hPv⟩ := src
  refine wpAny_newObj_type (wpAny_newFunctionEnv hsc.nocell (by intro y hy; simp at hy) (fun h₂ hns₂ hsb₂ => ?_) hsc.kind)
  dsimp only at hns₂ hsb₂ ⊢
  generalize hH2 : h₁.push { cls := .type "list", dict := none, data := .seq ([] : List Value).toArray } = H2 at hns₂ hsb₂ ⊢
  generalize hDe : h₁.objs.size = D
  generalize hCe : H2.objs.size = C at hns₂ hsb₂ ⊢
  have hCs : C = D + 1 := by rw [← hCe, ← hH2, ← hDe, Heap.size_push]
  have hDC : D ≠ C := by omega
  have hD₁ : h₁.get? D = none := gone_of_le (by omega)
  have hC₁ : h₁.get? C = none := gone_of_le (by omega)
  have hD₀ := none_back k₁ hD₁
  have hC₀ := none_back k₁ hC₁
  have old : ∀ b o, h₁.get? b = some o → h₂.get? b = some o := fun b o e => hsb₂.extBut b o (by rintro rfl; rw [hC₁] at e; cases e) (Heap.get?_push_of_some _ (hH2 ▸ Heap.get?_push_of_some _ e))
  have hacc₂ : h₂.PlainList D #[] := ⟨_, hsb₂.extBut _ _ hDC (Heap.get?_push_of_some _ (by rw [← hH2, ← hDe]; exact Heap.get?_push_size _ rfl))⟩
  have hst₂ : Sv 0 h₂ := W.frame _ _ _ hst fun b _ o e => old b o e
  have hIfp : I ∈ fp := W.sub I (.head _)
  have hI₁ : ∃ o, h₁.get? I = some o := (hfp I hIfp).2.2
  have hIC : I ≠ C := by rintro rfl; obtain ⟨o, e⟩ := hI₁; rw [hC₁] at e; cases e
  have hID : I ≠ D := by rintro rfl; obtain ⟨o, e⟩ := hI₁; rw [hD₁] at e; cases e
  have fpC : ∀ b ∈ fp, b ≠ C ∧ b ≠ D := fun b hb => by
    obtain ⟨o, e⟩ := (hfp b hb).2.2
    exact ⟨fun z => (by rw [z, hC₁] at e; cases e), fun z => (by rw [z, hD₁] at e; cases e)⟩
  have ok' : (c.comp cs C).Ok n := comp_ok ok hsc
  have hsco : (c.comp cs C).env.scope = relab cs c.env.scope := comp_scope ok
  have loop : ∀ s₃ : Shared, s₃ = { s with heap := h₂, toks := tk₁ + ([] : List (PySem.Str × Value)).length } →
      codeAny (model prog w) c.A (.compLoop (.ListComp elt [⟨.Name (nm x) px, iter, ifs, 0⟩] cs p) 0 (.ref I) (.ref D) (c.comp cs C).env) (RR (.ref D) C) s₃ := by
    rintro s₃ rfl
    refine codeAny_compLoop_tests
      (CInv prog w r (vals φ) ei x cond f ds es (fun a => a ∉ D :: (E ++ c.Y Ω) ∧ a ∉ (c.comp cs C).Y []) c.fs I D C h₁ Sv s) ?_ (ds.length + 1)
      ⟨h₂, _, _, #[], [], es, 0, rfl, Nat.zero_le _, rfl, hst₂, hacc₂, hns₂, .nil, by simpa using H, rfl, .of_keeps old, Nat.le_refl _⟩
    rintro k s' ⟨h', tk, m', ys, es₁, es₂, i, rfl, hi, rfl, hst', hacc', hn', ra', hcomp, rfl, kp', hys⟩
    have kp₀ : Kp c.fs [] s.heap h' := k₁.trans' kp' fun b o e hb => by rw [List.mem_singleton] at hb; rw [hb, hI] at e; cases e
    by_cases hlt : i < ds.length
    · refine W.item i _ _ _ hlt hst' fun v h₃ tk₃ hv hst₃ hk₃ => ?_
      obtain ⟨d, hd, rd⟩ := hPv i v hv
      have kI : Kp c.fs [I] h' h₃ := fun b o e hb => .inl (hk₃ b o hb e)
      have upI : ∀ ok : Addr → Prop, UpAt ok h' h₃ := fun ok b o _ e hh => hk₃ b o (fun z => by
        rw [List.mem_singleton] at z
        obtain ⟨o', e', nh, _⟩ := hheld i h' hst'
        rw [z, e'] at e; cases e; exact nh hh) e
      refine wpAny_assign_Name (wpAny_storeName_local (env := (c.comp cs C).env) (lookup_relabel_local hsc.var) (hn'.at' fun o e => hk₃ _ o (by rw [List.mem_singleton]; exact hIC.symm) e) (fun h₄ hn₄ hs₄ => ?_) (by rw [show (c.comp cs C).env.scope.kind = .function from hsc.kind]; rfl))
      have hst₄ : Sv (i + 1) h₄ := W.frame _ _ _ hst₃ fun b hb o e => hs₄.extBut b o (fpC b hb).1 e
      have kC : ∀ b o, b ≠ C → h₃.get? b = some o → h₄.get? b = some o := fun b o hb e => hs₄.extBut b o hb e
      have up₄ : ∀ b o, h₁.get? b = some o → Held o → b ∉ c.Y Ω → h₄.get? b = some o := fun b o e hh _ => by
        have hbI : b ≠ I := by
          rintro rfl
          obtain ⟨o', e', nh, _⟩ := hheld 0 h₁ hst
          rw [e'] at e; cases e; exact nh hh
        have hbC : b ≠ C := by rintro rfl; rw [hC₁] at e; cases e
        exact kC b o hbC (hk₃ b o (by rw [List.mem_singleton]; exact hbI) (kp'.same e (by rw [List.mem_singleton]; exact hbI) hh.noFrame))
      have kp₄ : Kp c.fs [I] h₁ h₄ := (kp'.trans kI).trans' (Y' := [C]) (fun b o e hb => .inl (kC b o (fun z => hb (by rw [z]; exact .head _)) e)) fun b o e hb => by rw [List.mem_singleton] at hb; rw [hb, hC₁] at e; cases e
      have kp₀₄ : Kp c.fs [] s.heap h₄ := k₁.trans' kp₄ fun b o e hb => by rw [List.mem_singleton] at hb; rw [hb, hI] at e; cases e
      have hDa₄ : h₄.PlainList D ys := hacc'.at fun o e => kC D o hDC (hk₃ D o (by rw [List.mem_singleton]; exact hID.symm) e)
      have ra₄ : RA (prog, w) (fun a => a ∉ D :: (E ++ c.Y Ω) ∧ a ∉ (c.comp cs C).Y []) h₄ ys.toList es₁ := (ra'.mono (upI _) fun _ _ x _ => x).mono (fun b o hb e _ => kC b o (fun z => hb.2 (by rw [z]; exact .head _)) e) fun _ _ x _ => x
      have stC : St (prog, w) b0 (c.comp cs C) (D :: (E ++ c.Y Ω)) (upd x (.val d f) (vals φ)) [] h₄ :=
        comp_st ok hsc st kp₀₄ hC₀ hD₀ hn₄ (by simp) (let ⟨_, e⟩ := hDa₄; ⟨_, e⟩) hC₁ hD₁ up₄ rd
      have hdrop : ds.drop i = d :: ds.drop (i + 1) := by
        rw [List.drop_eq_getElem_cons hlt]
        rw [List.getElem?_eq_getElem hlt] at hd
        rw [Option.some.inj hd]
      rw [hdrop, List.map_cons] at hcomp
      have hcase := compI_cons hcomp
      have hcond : ∀ (b : Bool) (QT : Bool → Shared → Prop) (E' : Value → Shared → Prop), condI r (upd x (.val d f) (vals φ)) cond = .ok b → (∀ h₅ tk₅, Kp c.fs [] h₄ h₅ → QT b { s with heap := h₅, toks := tk₅ }) →
          wpAny (model prog w) c.A (forIn ifs true fun t r => if r = true then do let ok ← isTrue t (c.comp cs C).env (eval t (c.comp cs C).env); pure (ForInStep.yield ok) else pure (ForInStep.yield r)) QT E' { s with heap := h₄, toks := tk₃ + 1 } := by
        intro b QT E' hb hq
        rcases hc with ⟨rfl, rfl⟩ | ⟨t, ti, rfl, rfl, hct⟩
        · cases hb; exact wpAny_pure (hq _ _ .refl)
        · rw [List.forIn_cons]
          simp only [if_true]
          refine wpAny_bind (wpAny_bind (hT (c.comp cs C) _ _ _ { s with heap := h₄, toks := tk₃ + 1 } t ti _ _ ok' stC (by rw [hsco]; exact hct) ?_))
          have hb' : r.ts (upd x (.val d f) (vals φ)) ti = .ok b := hb
          rw [hb']
          intro h₅ tk₅ k₅
          exact wpAny_pure (wpAny_pure (hq _ _ k₅))
      have hst₅ : ∀ {h₅}, Kp c.fs [] h₄ h₅ → Sv (i + 1) h₅ := fun k₅ => W.frame _ _ _ hst₄ fun b hb o e => k₅.off e (by simp) (hfp b hb).1
      rcases hcase with ⟨htrue, y, e, es', hy, hfz, hrest, rfl⟩ | ⟨hfalse, hrest⟩
      · refine hcond true _ _ htrue fun h₅ tk₅ k₅ => ?_
        simp only [if_true]
        have st₅ := stC.kp k₅
        refine hE (c.comp cs C) _ _ _ { s with heap := h₅, toks := tk₅ } elt ei _ _ ok' st₅ (by rw [hsco]; exact he) ?_
        rw [hy]
        intro v' h₆ tk₆ k₆ rv'
        have hD₆ : h₆.PlainList D ys := (hDa₄.at fun o e => k₅.same e (by simp) (by obtain ⟨_, e'⟩ := hDa₄; rw [e'] at e; cases e; exact noFrame rfl (by decide))).at fun o e => by
          have hx := hDa₄.at (h' := h₅) fun o e => k₅.same e (by simp) (by obtain ⟨_, e'⟩ := hDa₄; rw [e'] at e; cases e; exact noFrame rfl (by decide))
          exact k₆.same e (by simp) (by obtain ⟨_, e'⟩ := hx; rw [e'] at e; cases e; exact noFrame rfl (by decide))
        refine wpAny_list_append_plain (hsz := by omega) hD₆ fun h₇ hD₇ hs₇ => ?_
        have rf := fz_R hfz rv'
        refine ⟨ds.length + 1 - (i + 1), by omega, h₇, tk₆, _, ys.push v', es₁ ++ [e], es', i + 1, rfl, hlt, rfl, ?_, hD₇, (k₆.slots.ns (k₅.slots.ns hn₄)).sameBut hs₇ hDC.symm, ?_, hrest, by simp, ?_, by simp; omega⟩
        · exact W.frame _ _ _ (hst₅ k₅) fun b hb o e => hs₇.extBut b o (fpC b hb).2 (k₆.off e (by simp) (hfp b hb).1)
        · have upD : UpAt (fun a => a ∉ D :: (E ++ c.Y Ω) ∧ a ∉ (c.comp cs C).Y []) h₆ h₇ := fun b o hb e _ => hs₇.extBut b o (fun z => hb.1 (by rw [z]; exact .head _)) e
          have r1 := ((ra₄.mono (k₅.up fun _ _ => by simp) fun _ _ x _ => x).mono (k₆.up fun _ _ => by simp) fun _ _ x _ => x).mono upD fun _ _ x _ => x
          have r2 := rf.mono upD fun _ _ x _ => x
          rw [Array.toList_push]
          exact r1.append (.one r2)
        · refine ((kp₄.trans (k₅.weak fun _ z => nomatch z)).trans (k₆.weak fun _ z => nomatch z)).trans' (Y' := [D]) (fun b o e hb => .inl (hs₇.extBut b o (fun z => hb (by rw [z]; exact .head _)) e)) fun b o e hb => ?_
          rw [List.mem_singleton] at hb; rw [hb, hD₁] at e; cases e
      · refine hcond false _ _ hfalse fun h₅ tk₅ k₅ => ?_
        simp only [Bool.false_eq_true, if_false]
        have hD₅ : h₅.PlainList D ys := hDa₄.at fun o e => k₅.same e (by simp) (by obtain ⟨_, e'⟩ := hDa₄; rw [e'] at e; cases e; exact noFrame rfl (by decide))
        exact ⟨ds.length + 1 - (i + 1), by omega, h₅, tk₅, _, ys, es₁, es₂, i + 1, rfl, hlt, rfl, hst₅ k₅, hD₅, k₅.slots.ns hn₄, ra₄.mono (k₅.up fun _ _ => by simp) fun _ _ x _ => x, hrest, rfl, kp₄.trans (k₅.weak fun _ z => nomatch z), by omega⟩
    · have hin : i = ds.length := by omega
      subst hin
      have hes : es₂ = [] := by
        rw [List.drop_length, List.map_nil] at hcomp
        cases hcomp; rfl
      subst hes
      refine W.done _ _ _ hst' fun h₃ tk₃ hk₃ => ?_
      have upI : ∀ ok : Addr → Prop, UpAt ok h' h₃ := fun ok b o _ e hh => hk₃ b o (fun z => by
        rw [List.mem_singleton] at z
        obtain ⟨o', e', nh, _⟩ := hheld _ h' hst'
        rw [z, e'] at e; cases e; exact nh hh) e
      obtain ⟨kk, hDe⟩ : h₃.PlainList D ys := hacc'.at fun o e => hk₃ D o (by rw [List.mem_singleton]; exact hID.symm) e
      refine hRR D C h₃ tk₃ m' hDC hD₀ hC₀ (hn'.at' fun o e => hk₃ _ o (by rw [List.mem_singleton]; exact hIC.symm) e) ?_ (kp₀.trans' (Y' := [I]) (fun b o e hb => .inl (hk₃ b o hb e)) fun b o e hb => by rw [List.mem_singleton] at hb; rw [hb, hI] at e; cases e)
      rw [List.append_nil]
      have hDn := (st.kp k₁).fresh (a := D) (by omega)
      refine .list (vs := ys.toList) ⟨hDn.1, hDn.2, hDC⟩ hDe rfl (n := kk) (by simp) (by rw [Array.length_toList]; omega) ((ra'.mono (upI _) fun _ _ x _ => x).weak fun a ha => ⟨fun z => ha.1 (.tail _ (List.mem_append_left _ z)), fun z => ha.1 (.tail _ (List.mem_append_right _ z)), fun z => ha.2 (by rw [z]; exact .head _)⟩)
  exact codeAny_compStart_list (loop _ rfl) (W.self 0 _ _ _ hst₂ (loop _ rfl))
end
end Mine
end

section
set_option Elab.async false
namespace Mine
open PySem PySem.W PySem.Calls PyProof.Rows

theorem compI_exc {r : Rec} {φ : Frm} {elt : IE} {x : String} {cond : Option TE} {m : Msg} {us : List (V × Bool)} : compI r φ elt x cond us ≠ .exc m := by
  induction us generalizing m with
  | nil => exact fun h => nomatch h
  | cons u us ih =>
    intro h
    unfold compI at h
    split at h
    · split at h
      · cases hr : compI r φ elt x cond us with
        | ok es => rw [hr] at h; cases h
        | exc m' => exact ih hr
        | bad => rw [hr] at h; cases h
      · cases h
    · exact ih h
    · cases h
section
variable {prog : Program} {w : World} {b0 : Heap} {mg mb : PySem.Str → Option Value} {consts : String → Option V} {r : Rec} {n : Nat} {c : Cx} {E : List Addr} {φ : Frm} {Ω : List (String × Addr)} {s : Shared} {Q : Value → Shared → Prop} {QB : Bool → Shared → Prop} {Ex : Value → Shared → Prop} {A : Around}
variable {cs : Scope} {x : String}

/-- the block of a comprehension, whatever is done with its list -/
theorem comp_run {elt iter : Expr} {px p : Pos} {ifs : List Expr} {ei : IE} {it : It} {cond : Option TE} {RR : Value → Addr → Result → Shared → Prop} (S : Stat (prog, w) b0 mg mb consts)
    (hE : SEv prog w b0 r n) (hT : STs prog w b0 r n) (ok : c.Ok n) (hsc : CompSc cs c.env.scope x) (st : St (prog, w) b0 c E φ Ω s.heap) (hi : CI c.env.scope iter it) (he : CE (relab cs c.env.scope) elt ei) (hc : CIf (relab cs c.env.scope) ifs cond) {X : Msg → Prop} (hX : ∀ m, X m → XPost c s Ex m)
    (H : G (evI consts r φ (.comp ei x it cond)) (fun u => ∃ es, u = (.list es, true) ∧ ∀ D C h' tk m', D ≠ C → s.heap.get? D = none → s.heap.get? C = none → h'.Ns C m' → R (prog, w) (fun a => a ∉ E ∧ a ∉ c.Y Ω ∧ a ≠ C) h' (.ref D) (.list es) → Kp c.fs [] s.heap h' → RR (.ref D) C (.ok .next) { s with heap := h', toks := tk }) X) :
    wpAny (model prog w) c.A (eval iter c.env) (fun xv s₁ => wpAny (model prog w) c.A (pyIter xv) (fun itv s₂ => wpAny (model prog w) c.A (newList []) (fun acc s₃ =>
      wpAny (model prog w) c.A (newFunctionEnv cs c.env.globals (closL c.env.cells cs.names []) [] c.env.qual none .none (some c.env)) (fun cenv s₄ =>
        codeAny (model prog w) c.A (.compStart (.ListComp elt [⟨.Name (nm x) px, iter, ifs, 0⟩] cs p) 0 itv acc { cenv with scope := relabel cs c.env }) (RR acc cenv.locals) s₄) Ex s₃) Ex s₂) Ex s₁) Ex s := by
  dsimp only [evI] at H
  rcases G.ite H with ⟨hs, H⟩ | ⟨_, H⟩
  · refine iter_sound S hE ok st hi hs (H.bind.mono (fun us _ Hus I h' tk ds f e hlen kp hI src => ?_) fun m _ X => hX m X)
    subst e
    rcases G.ite Hus with ⟨_, Hus⟩ | ⟨_, Hus⟩
    · cases hcomp : compI r (vals φ) ei x cond (ds.map fun d => (d, f)) with
      | bad => rw [hcomp] at Hus; exact Hus.elim
      | exc m => exact absurd hcomp compI_exc
      | ok es =>
        rw [hcomp] at Hus
        obtain ⟨es', e, hq⟩ := (show ∃ es', ((V.list es, true) : V × Bool) = (.list es', true) ∧ _ from Hus)
        cases e
        exact comp_blk hE hT ok hsc st he hc kp hI src hlen hcomp hq
    · exact Hus.elim
  · exact H.elim
theorem comp_list {ei : IE} {it : It} {cond : Option TE} {u : V × Bool} (hu : evI consts r φ (.comp ei x it cond) = .ok u) : ∃ es, u = (.list es, true) := by
  dsimp only [evI] at hu
  split at hu
  · cases h1 : iterI r φ it with
    | bad => rw [h1] at hu; cases hu
    | exc m => rw [h1] at hu; cases hu
    | ok us =>
      rw [h1] at hu
      dsimp only [Res.bind] at hu
      split at hu
      · cases h2 : compI r (vals φ) ei x cond us with
        | bad => rw [h2] at hu; cases hu
        | exc m => rw [h2] at hu; cases hu
        | ok es => rw [h2] at hu; cases hu; exact ⟨es, rfl⟩
      · cases hu
  · cases hu
theorem ev_comp {elt iter : Expr} {px p : Pos} {ifs : List Expr} {ei : IE} {it : It} {cond : Option TE} (S : Stat (prog, w) b0 mg mb consts)
    (hE : SEv prog w b0 r n) (hT : STs prog w b0 r n) (ok : c.Ok n) (hsc : CompSc cs c.env.scope x) (st : St (prog, w) b0 c E φ Ω s.heap) (hi : CI c.env.scope iter it) (he : CE (relab cs c.env.scope) elt ei) (hc : CIf (relab cs c.env.scope) ifs cond)
    (H : G (evI consts r φ (.comp ei x it cond)) (EvPost (prog, w) c E Ω s Q) (XPost c s Ex)) : wpAny (model prog w) c.A (eval (.ListComp elt [⟨.Name (nm x) px, iter, ifs, 0⟩] cs p) c.env) Q Ex s := by
  rw [eval_ListComp]
  refine wpAny_comprehension_free (use := none) rfl (fun v => hi.noSet _ v) (clos_pure ok hsc) hsc.kind hsc.names (comp_run S hE hT ok hsc st hi he hc (X := XPost c s Ex) (fun _ X => X) (H.mono (fun u hu Hu => ?_) fun _ _ X => X))
  obtain ⟨es, rfl⟩ := comp_list hu
  refine ⟨es, rfl, fun D C h' tk m' hDC hD hC hn rv kp => ⟨m', hn, fun h'' hs => ?_⟩⟩
  refine (show EvPost (prog, w) c E Ω s Q (.list es, true) from Hu) _ _ _ (kp.trans' (Y' := [C]) (fun b o e hb => .inl (hs.extBut b o (fun z => hb (by rw [z]; exact .head _)) e)) fun b o e hb => ?_) (rv.mono (fun b o hb e _ => hs.extBut b o hb.2.2 e) fun _ _ x _ _ => ⟨x.1, x.2.1⟩)
  rw [List.mem_singleton] at hb; rw [hb, hC] at e; cases e
end
end Mine
end

section
set_option Elab.async false
namespace Mine
open PySem PySem.W PySem.Calls PyProof.Rows

/-! ## the statements of the small language -/
noncomputable def isComp : IE → Bool
  | .comp .. => true
  | _ => false
noncomputable def isTupE : IE → Bool
  | .tuple .. => true
  | _ => false
section
variable {sc : Scope} {e : Expr} {i : IE} {env : Env} {l : Nat} (h : CE sc e i)
include h
theorem CE.swN {t : Option Expr} (hc : isComp i = false) : swapsWith e t l env = pure false := by
  obtain ⟨n, h, _⟩ := h.one
  rw [← h]
  cases i <;> first | rfl | cases hc
theorem CE.swS {o k : Expr} {p : Pos} : swapsWith e (some (.Subscript o k p)) l env = pure false := by
  obtain ⟨n, h, _⟩ := h.one
  rw [← h]
  cases i <;> rfl
theorem CE.swT {es : List Expr} {k : Nat} {p : Pos} : swapsWithSole [.Tuple es k p] e l env = pure false := by
  obtain ⟨n, h, _⟩ := h.one
  rw [← h]
  cases i <;> rfl
theorem CE.stT {es : List Expr} {k : Nat} {p : Pos} (hc : isTupE i = false) : swappedStores [.Tuple es k p] e env = pure none := by
  obtain ⟨n, h, _⟩ := h.one
  rw [← h]
  cases i <;> first | rfl | cases hc
end
inductive CNs : Scope → List Expr → List String → Prop
  | nil {sc} : CNs sc [] []
  | cons {sc x p es xs} : LName sc x → x ∉ xs → CNs sc es xs → CNs sc (.Name (nm x) p :: es) (x :: xs)
noncomputable def slook (s : Stmt) : List Expr × List Stmt × List Stmt × List ExceptHandler := match s with
  | .Assign ts v _ => (v :: ts, [], [], [])
  | .Expr e _ => ([e], [], [], [])
  | .If t a b _ => ([t], a, b, [])
  | .For t i b _ _ => ([t, i], b, [], [])
  | .Return v _ => (v.toList, [], [], [])
  | .Raise a b _ => (a.toList ++ b.toList, [], [], [])
  | .Delete ts _ => (ts, [], [], [])
  | .Try b hs _ _ _ => ([], b, [], hs)
  | _ => ([], [], [], [])
noncomputable def sk (n : Nat) (s : Stmt) : Expr := (slook s).1.getD n default
noncomputable def hlook : ExceptHandler → Expr × Stmt × Pos
  | .ExceptHandler t _ b p => (t.getD default, b.headD default, p)
/-- the one handler -/
noncomputable def hnd (s : Stmt) : Expr × Stmt × Pos := hlook ((slook s).2.2.2.headD default)
noncomputable def body0 (s : Stmt) : Stmt := (slook s).2.1.headD default
noncomputable def nameN (x : String) (e : Expr) : Expr := .Name (nm x) e.pos
noncomputable def namesT (xs : List String) (e : Expr) : Expr := .Tuple (zipW (fun e x => nameN x e) xs (look e).1) (look e).2.1 e.pos
noncomputable def tryT (s b : Stmt) (er : String) (h : Stmt) : Stmt := .Try [b] [.ExceptHandler (some (nameN "ValueError" (hnd s).1)) (some (nm er)) [h] (hnd s).2.2] [] [] s.pos
noncomputable def errI (er nu : String) : IE := .call "ValueError" [.fstr [.lit (nm "line "), .fmt (.var nu), .lit (nm ": "), .fmt (.var er)]]
/-- type(x) is T, type(x[k]) is T -/
noncomputable def partT (x : String) (k : Option Int) (T : String) (yes : Bool) (e : Expr) : Expr := .Compare (callN "type" (kid 0 e) [match k with
  | none => .Name (nm x) (kid 1 (kid 0 e)).pos
  | some k => .Subscript (.Name (nm x) (kid 0 (kid 1 (kid 0 e))).pos) (.Constant (.int k) (look (kid 1 (kid 1 (kid 0 e)))).2.1 (kid 1 (kid 1 (kid 0 e))).pos) (kid 1 (kid 0 e)).pos]) [isW yes] [.Name (nm T) (kid 1 e).pos] e.pos
noncomputable def toS : Nat → Stmt → IS → Stmt
  | 0, s, _ => s
  | n + 1, s, i => match i with
    | .assign x e => .Assign [nameN x (sk 1 s)] (toE n (sk 0 s) e) s.pos
    | .unpack xs e => .Assign [namesT xs (sk 1 s)] (toE n (sk 0 s) e) s.pos
    | .newAcc x => .Assign [nameN x (sk 1 s)] (.List [] (sk 0 s).pos) s.pos
    | .newTab x => .Assign [nameN x (sk 1 s)] (.Dict [] [] (sk 0 s).pos) s.pos
    | .append x e => .Expr (callM x "append" (sk 0 s) [toE n (kid 1 (sk 0 s)) e]) s.pos
    | .appendMut x f t es => .Expr (callM x "append" (sk 0 s) [callN f (kid 1 (sk 0 s)) (nameN t (kid 1 (kid 1 (sk 0 s))) :: zipW (toE n) es (args (kid 1 (sk 0 s))).tail)]) s.pos
    | .setKey t k e => .Assign [.Subscript (nameN t (kid 0 (sk 1 s))) (toE n (kid 1 (sk 1 s)) k) (sk 1 s).pos] (toE n (sk 0 s) e) s.pos
    | .popTo y t k => .Assign [nameN y (sk 1 s)] (callM t "pop" (sk 0 s) [toE n (kid 1 (sk 0 s)) k]) s.pos
    | .popKey t k => .Expr (callM t "pop" (sk 0 s) [toE n (kid 1 (sk 0 s)) k]) s.pos
    | .delKey t k => .Delete [.Subscript (nameN t (kid 0 (sk 0 s))) (toE n (kid 1 (sk 0 s)) k) (sk 0 s).pos] s.pos
    | .ite t a b => .If (toT n (sk 0 s) t) (zipW (toS n) a (slook s).2.1) (zipW (toS n) b (slook s).2.2.1) s.pos
    | .for1 x it is => .For (nameN x (sk 0 s)) (toI n (sk 1 s) it) (zipW (toS n) is (slook s).2.1) [] s.pos
    | .forN xs it is => .For (namesT xs (sk 0 s)) (toI n (sk 1 s) it) (zipW (toS n) is (slook s).2.1) [] s.pos
    | .ret e => .Return (some (toE n (sk 0 s) e)) s.pos
    | .raise e => .Raise (some (callN "ValueError" (sk 0 s) [toE n (kid 1 (sk 0 s)) e])) none s.pos
    | .tryStr x e y er => tryT s (toS n (body0 s) (.assign x e)) er (toS n (hnd s).2.1 (.assign y (.strOf (.var er))))
    | .tryLine t1 x e1 t2 e2 m nu => tryT s (toS n (body0 s) (.ite t1 [.append x e1] [.ite t2 [.append x e2] [.raise m]])) "error" (.Raise (some (toE n (sk 0 (hnd s).2.1) (errI "error" nu))) (some (.Constant .none (look (sk 1 (hnd s).2.1)).2.1 (sk 1 (hnd s).2.1).pos)) (hnd s).2.1.pos)
    | .pickFirst x y t => .For (nameN x (sk 0 s)) (nameN t (sk 1 s)) [.Assign [nameN y (sk 1 (body0 s))] (nameN x (sk 0 (body0 s))) (body0 s).pos, .Break ((slook s).2.1.getD 1 default).pos] [] s.pos
    | .guardAny x e k T yes => .If (callN "any" (sk 0 s) [.GeneratorExp (partT x k T yes (kid 0 (kid 1 (sk 0 s)))) [⟨.Name (nm x) (kid 1 (kid 1 (sk 0 s))).pos, toE n (kid 2 (kid 1 (sk 0 s))) e, [], 0⟩] (look (kid 1 (sk 0 s))).2.2 (kid 1 (sk 0 s)).pos]) [.Return (some (.Constant (.bool false) (look (sk 0 (body0 s))).2.1 (sk 0 (body0 s)).pos)) (body0 s).pos] [] s.pos
    | .cont => .Continue s.pos
    | .brk => .Break s.pos
noncomputable def nmsB (sc : Scope) (xs : List String) : Bool := xs.all (lnB sc) && decide xs.Nodup
theorem nms_ok {sc : Scope} {xs : List String} (h1 : ∀ x ∈ xs, lnB sc x = true) (h2 : xs.Nodup) : ∀ {es : List Expr}, CNs sc (zipW (fun e x => nameN x e) xs es) xs := by
  induction xs with
  | nil => exact .nil
  | cons x xs ih => exact .cons (lnB_ok (h1 x (.head _))) (List.nodup_cons.mp h2).1 (ih (fun y hy => h1 y (.tail _ hy)) (List.nodup_cons.mp h2).2)
theorem nmsB_ok {sc : Scope} {xs : List String} {es : List Expr} (h : nmsB sc xs = true) : CNs sc (zipW (fun e x => nameN x e) xs es) xs := nms_ok (List.all_eq_true.mp (and_ok h).1) (of_decide_eq_true (and_ok h).2)
/-- a comprehension whose value goes to a name -/
noncomputable def asB (sc : Scope) (s : Stmt) (x : String) (e : IE) : Bool := match e with
  | .comp .. => loB sc x && (((sk 1 s).pos.line == (sk 0 s).pos.line) && !((look (sk 0 s)).2.2.names.any fun z => z.1 == nm x && (z.2 == .local || z.2 == .cell)))
  | _ => lnB sc x
theorem asB_ok {sc : Scope} {s : Stmt} {x : String} {e : IE} (h : asB sc s x e = true) (hc : isComp e = false) : LName sc x := by
  cases e <;> first | exact lnB_ok h | cases hc
/-- for x, y in enumerate(e, 1) -/
noncomputable def foB (n : Nat) (sc : Scope) (xs : List String) (e : Expr) (it : It) : Bool := match it with
  | .enum i => decide (xs.length = 2) && (gnB sc "enumerate" && okE (n - 1) sc (kid 1 e) i)
  | it => okI n sc e it
noncomputable def okS : Nat → Scope → Stmt → IS → Bool
  | 0, _, _, _ => false
  | n + 1, sc, s, i => match i with
    | .assign x e => asB sc s x e && okE n sc (sk 0 s) e
    | .unpack xs e => nmsB sc xs && (!isTupE e && okE n sc (sk 0 s) e)
    | .newAcc x => lnB sc x
    | .newTab x => lnB sc x
    | .append x e => lnB sc x && (lineM (sk 0 s) && okE n sc (kid 1 (sk 0 s)) e)
    | .appendMut x f t es => lnB sc x && (lineM (sk 0 s) && (gnB sc f && (lnB sc t && zipB (okE n sc) es (args (kid 1 (sk 0 s))).tail)))
    | .setKey t k e => lnB sc t && (okE n sc (kid 1 (sk 1 s)) k && okE n sc (sk 0 s) e)
    | .popTo y t k => lnB sc y && (lnB sc t && (lineM (sk 0 s) && okE n sc (kid 1 (sk 0 s)) k))
    | .popKey t k => lnB sc t && (lineM (sk 0 s) && okE n sc (kid 1 (sk 0 s)) k)
    | .delKey t k => lnB sc t && okE n sc (kid 1 (sk 0 s)) k
    | .ite t a b => okT n sc (sk 0 s) t && (zipB (okS n sc) a (slook s).2.1 && zipB (okS n sc) b (slook s).2.2.1)
    | .for1 x it is => lnB sc x && (it.simple && (okI n sc (sk 1 s) it && zipB (okS n sc) is (slook s).2.1))
    | .forN xs it is => nmsB sc xs && (foB n sc xs (sk 1 s) it && zipB (okS n sc) is (slook s).2.1)
    | .ret e => okE n sc (sk 0 s) e
    | .raise e => gnB sc "ValueError" && okE n sc (kid 1 (sk 0 s)) e
    | .tryStr x e y er => decide (5 ≤ n) && (gnB sc "ValueError" && (loB sc er && (decide (er ≠ y) && (!isComp e && (okS n sc (body0 s) (.assign x e) && okS n sc (hnd s).2.1 (.assign y (.strOf (.var er))))))))
    | .tryLine t1 x e1 t2 e2 m nu => decide (5 ≤ n) && (loB sc "error" && (lnB sc nu && (decide ("error" ≠ nu) && okS n sc (body0 s) (.ite t1 [.append x e1] [.ite t2 [.append x e2] [.raise m]]))))
    | .pickFirst x y t => lnB sc x && (lnB sc y && lnB sc t)
    | .guardAny _ _ _ _ _ => false
    | .cont => true
    | .brk => true
noncomputable def CS (sc : Scope) (s : Stmt) (i : IS) : Prop := ∃ n, toS n s i = s ∧ okS n sc s i = true
theorem CS.one {sc : Scope} {s : Stmt} {i : IS} (h : CS sc s i) : ∃ n, toS (n + 1) s i = s ∧ okS (n + 1) sc s i = true := by
  obtain ⟨n, h1, h2⟩ := h
  cases n with
  | zero => cases h2
  | succ n => exact ⟨n, h1, h2⟩
abbrev CB (sc : Scope) : List Stmt → List IS → Prop := All2 (CS sc)
theorem mkB {sc : Scope} {n : Nat} {as : List Stmt} {is : List IS} (h : zipW (toS n) is as = as) (o : zipB (okS n sc) is as = true) : CB sc (zipW (toS n) is as) is := zip_all (fun _ _ h o => ⟨n, h, o⟩) h o

/-! ## the state of a def's body -/
structure Cx.Fn (c : Cx) : Prop where
  head : ∃ outer, c.stk = c.env :: outer
  frame : c.env.frame = some c.env.locals
structure StS (P : Program × World) (b0 : Heap) (c : Cx) (E : List Addr) (φ : Frm) (Ω : List (String × Addr)) (h : Heap) : Prop where
  st : St P b0 c E φ Ω h
  nodup : (c.own ++ Ω.map (·.2)).Nodup
  dom : ∀ x, φ.lookup x = none → Ω.lookup x = none
  accE : ∀ x ds a, φ.lookup x = some (.acc ds) → Ω.lookup x = some a → a ∉ E
  apart : ∀ b ∈ c.fs, b ≠ c.env.locals → b ∉ c.Y Ω
noncomputable def Gr (c : Cx) (h : Heap) (Ω Ω' : List (String × Addr)) : Prop := (∀ x a, Ω.lookup x = some a → Ω'.lookup x = some a) ∧ ∀ a ∈ c.Y Ω', a ∈ c.Y Ω ∨ h.get? a = none
theorem Gr.refl {c : Cx} {h : Heap} {Ω : List (String × Addr)} : Gr c h Ω Ω := ⟨fun _ _ e => e, fun _ h => .inl h⟩
theorem Gr.trans {c : Cx} {h h' : Heap} {Ω Ω' Ω'' : List (String × Addr)} {fs : List Addr} (g : Gr c h Ω Ω') (k : Kp fs (c.Y Ω) h h') (g' : Gr c h' Ω' Ω'') : Gr c h Ω Ω'' := by
  refine ⟨fun x a e => g'.1 x a (g.1 x a e), fun a ha => ?_⟩
  rcases g'.2 a ha with z | z
  · exact g.2 a z
  · by_cases hy : a ∈ c.Y Ω
    · exact .inl hy
    · refine .inr ?_
      cases e : h.get? a with
      | none => rfl
      | some o => obtain ⟨sl, e'⟩ := k.there e hy; rw [z] at e'; cases e'
theorem Gr.kp {c : Cx} {h h' h'' : Heap} {Ω Ω' : List (String × Addr)} {fs : List Addr} (g : Gr c h Ω Ω') (k : Kp fs (c.Y Ω) h h') (k' : Kp fs (c.Y Ω') h' h'') : Kp fs (c.Y Ω) h h'' := k.trans' k' fun a o e ha => by
  rcases g.2 a ha with z | z
  · exact z
  · rw [z] at e; cases e

noncomputable def FlR (P : Program × World) (E : List Addr) (h : Heap) : Fl → Flow → Prop
  | .next, .next => True
  | .cont, .cont => True
  | .brk, .brk => True
  | .ret d f, .ret v => R P (fun a => f = true → a ∉ E) h v d
  | _, _ => False
/-- a ValueError that was just made, on no traceback yet -/
structure Raw (h : Heap) (x : Addr) (m : Msg) (h' : Heap) : Prop where
  keeps : ∀ b o, h.get? b = some o → h'.get? b = some o
  new : h.get? x = none
  there : ∃ o vs t tk, h'.get? x = some o ∧ o.cls = .type "ValueError" ∧ o.data = .fields vs ∧ vs[0]? = some (.ref t) ∧ vs[1]? = some .none ∧ (m.2 = true → vs[2]? = some .none) ∧ h.get? t = none ∧ h'.TupAt t [.str m.1 tk]
  len : m.1.length ≤ sizeLine
/-- one that this very frame has noted -/
structure HeldX (l : List Env) (h : Heap) (x : Addr) (m : Msg) (h' : Heap) : Prop where
  fly : ∃ t tk L, (l.head?.bind (·.frame)) = some L ∧ Heap.HeldW (hideAll h (l.filterMap (·.frame))) l x (.type "ValueError") (.ref t) L h' ∧ h'.TupAt t [.str m.1 tk] ∧ (hideAll h (l.filterMap (·.frame))).get? t = none
  up : h.UpToSlots h'
  len : m.1.length ≤ sizeLine
  ctx : m.2 = true → ∃ o vs, h'.get? x = some o ∧ o.data = .fields vs ∧ vs[2]? = some .none
noncomputable def Lit (l : List Env) (h : Heap) (x : Addr) (m : Msg) (h' : Heap) : Prop := Fly l h x m h' ∨ Raw h x m h' ∨ HeldX l h x m h'
section
variable (P : Program × World) (b0 : Heap) (c : Cx) (E : List Addr) (Ω : List (String × Addr)) (s : Shared)
noncomputable def ExPost (Q : Flow → Shared → Prop) (p : Fl × Frm) : Prop := ∀ flow h' tk Ω', FlR P E h' p.1 flow → Kp c.fs (c.Y Ω) s.heap h' → Gr c s.heap Ω Ω' → StS P b0 c E p.2 Ω' h' → Q flow { s with heap := h', toks := tk }
structure Ground (h : Heap) : Prop where
  stay : b0.StaysIn h
  ff : h.FunFrames b0 c.stk
  fc : ∀ b ∈ c.fs, ∃ o, h.get? b = some o ∧ o.cls = .type "frame"
noncomputable def XPostS (Ex : Value → Shared → Prop) (m : Msg) : Prop := ∀ h₁ x h' tk, Kp c.fs (c.Y Ω) s.heap h₁ → Ground b0 c h₁ → Lit c.stk h₁ x m h' → Ex (.ref x) { s with heap := h', toks := tk }
end
section
variable {P : Program × World} {b0 : Heap} {c : Cx} {E : List Addr} {φ : Frm} {Ω Ω' : List (String × Addr)} {s : Shared} {h₁ : Heap} {tk₁ : Nat}
theorem St.ground {h : Heap} (st : St P b0 c E φ Ω h) : Ground b0 c h := ⟨st.stay, st.ff, st.fc⟩
theorem XPostS.now {Ex : Value → Shared → Prop} {m : Msg} (H : XPostS b0 c Ω s Ex m) (st : St P b0 c E φ Ω s.heap) : XPost c s Ex m := fun x h' tk f => H s.heap x h' tk .refl st.ground (.inl f)
/-- an exception before anything of our own has changed -/
noncomputable def XPost0 (c : Cx) (s : Shared) (Ex : Value → Shared → Prop) (m : Msg) : Prop := ∀ h₁ x h' tk, Kp c.fs [] s.heap h₁ → Lit c.stk h₁ x m h' → Ex (.ref x) { s with heap := h', toks := tk }
theorem XPost0.now {Ex : Value → Shared → Prop} {m : Msg} (H : XPost0 c s Ex m) : XPost c s Ex m := fun x h' tk f => H s.heap x h' tk .refl (.inl f)
theorem XPost0.step {Ex : Value → Shared → Prop} {m : Msg} (H : XPost0 c s Ex m) (k : Kp c.fs [] s.heap h₁) : XPost0 c { s with heap := h₁, toks := tk₁ } Ex m := fun h₂ x h' tk k' l => H h₂ x h' tk (k.trans k') l
theorem XPostS.low {Ex : Value → Shared → Prop} {m : Msg} (H : XPostS b0 c Ω s Ex m) (st : St P b0 c E φ Ω s.heap) : XPost0 c s Ex m := fun h₁ x h' tk k l => H h₁ x h' tk (k.weak fun _ z => nomatch z) (st.kp k).ground l
theorem XPostS.step {Ex : Value → Shared → Prop} {m : Msg} (H : XPostS b0 c Ω s Ex m) (k : Kp c.fs (c.Y Ω) s.heap h₁) (g : Gr c s.heap Ω Ω') : XPostS b0 c Ω' { s with heap := h₁, toks := tk₁ } Ex m :=
  fun h₂ x h' tk k₂ gr l => H h₂ x h' tk (g.kp k k₂) gr l
theorem ExPost.step {Q : Flow → Shared → Prop} {p : Fl × Frm} (H : ExPost P b0 c E Ω s Q p) (k : Kp c.fs (c.Y Ω) s.heap h₁) (g : Gr c s.heap Ω Ω') : ExPost P b0 c E Ω' { s with heap := h₁, toks := tk₁ } Q p :=
  fun fl h' tk Ω'' hf k' g' st => H fl h' tk Ω'' hf (g.kp k k') (g.trans k g') st
theorem StS.kp {h h' : Heap} (st : StS P b0 c E φ Ω h) (k : Kp c.fs [] h h') : StS P b0 c E φ Ω h' := ⟨st.st.kp k, st.nodup, st.dom, st.accE, st.apart⟩
end
section
variable (prog : Program) (w : World) (b0 : Heap)
structure Passes (c : Cx) (Ex : Value → Shared → Prop) : Prop where
  own : PassesOwn (model prog w) c.A c.env Ex
  mark : ∀ hd, PassesOwnAt (model prog w) (c.A.mark hd) c.A c.env Ex
noncomputable def SEx (r : Rec) (n : Nat) : Prop := ∀ (c : Cx) (E : List Addr) (φ : Frm) (Ω : List (String × Addr)) (s : Shared) (a : Stmt) (i : IS) (Q : Flow → Shared → Prop) (Ex : Value → Shared → Prop),
  c.Ok n → c.Fn → Passes prog w c Ex → StS (prog, w) b0 c E φ Ω s.heap → CS c.env.scope a i → G (r.ex φ i) (ExPost (prog, w) b0 c E Ω s Q) (XPostS b0 c Ω s Ex) → wpAny (model prog w) c.A (exec a c.env) Q Ex s
end

/-- a block -/
theorem blk_sound {prog : Program} {w : World} {b0 : Heap} {r : Rec} {n : Nat} {c : Cx} {E : List Addr} {Q : Flow → Shared → Prop} {Ex : Value → Shared → Prop} (hX : SEx prog w b0 r n) (ok : c.Ok n) (hf : c.Fn) (hp : Passes prog w c Ex)
    {as : List Stmt} {is : List IS} (hb : CB c.env.scope as is) : ∀ {φ : Frm} {Ω : List (String × Addr)} {s : Shared}, StS (prog, w) b0 c E φ Ω s.heap → G (blk r φ is) (ExPost (prog, w) b0 c E Ω s Q) (XPostS b0 c Ω s Ex) → wpAny (model prog w) c.A (execs as c.env) Q Ex s := by
  induction hb with
  | nil => exact fun st H => wpAny_execs_nil ((show ExPost (prog, w) b0 c E _ _ Q (.next, _) from H) .next _ _ _ trivial .refl .refl st)
  | cons ha _ ih =>
    intro φ Ω s st H
    refine wpAny_execs_cons (hX c E φ Ω s _ _ _ _ ok hf hp st ha ((G.bind (res := r.ex φ _) H).mono (fun p _ Hp flow h' tk Ω' hfl k g st' => ?_) fun _ _ X => X))
    obtain ⟨fl, φ'⟩ := p
    cases fl with
    | next =>
      cases flow <;> first | exact hfl.elim | skip
      exact ih (s := { s with heap := h', toks := tk }) st' (G.mono (res := blk r φ' _) Hp (fun _ _ Hq => Hq.step k g) fun _ _ X => X.step k g)
    | cont =>
      cases flow <;> first | exact hfl.elim | skip
      exact (show ExPost (prog, w) b0 c E Ω s Q (.cont, φ') from Hp) _ _ _ Ω' hfl k g st'
    | brk =>
      cases flow <;> first | exact hfl.elim | skip
      exact (show ExPost (prog, w) b0 c E Ω s Q (.brk, φ') from Hp) _ _ _ Ω' hfl k g st'
    | ret d f =>
      cases flow <;> first | exact hfl.elim | skip
      exact (show ExPost (prog, w) b0 c E Ω s Q (.ret d f, φ') from Hp) _ _ _ Ω' hfl k g st'
end Mine
end

section
set_option Elab.async false
namespace Mine
open PySem PySem.W PySem.Calls PyProof.Rows

theorem putName_cls (name : PySem.Str) (h : Int) (key v : Value) (o : Obj) : (o.putName name h key v).cls = o.cls := by
  obtain ⟨c, d, dt, sl⟩ := o
  cases dt with
  | dict es n =>
    dsimp only [Obj.putName]
    split <;> rfl
  | _ => rfl
theorem putName_alive' (name : PySem.Str) (h : Int) (key v : Value) (o : Obj) (es : Array DictEntry) (n : Nat) (hd : o.data = .dict es n) : (o.putName name h key v).isFreed = false := by
  obtain ⟨c, d, dt, sl⟩ := o
  subst hd
  dsimp only [Obj.putName]
  split <;> rfl
/-- what a write to a namespace does, to the letter -/
theorem nsSet_exact {M : Model} {Γ : Ctx} {E : Value → Pos → Shared → Prop} {p : Pos} {s : Shared} {a : Addr} {m : PySem.Str → Option Value} (hn : s.heap.Ns a m) (name : PySem.Str) (v : Value) : ∃ (hsh : Int) (key : Value), ∀ Q : Unit → Pos → Shared → Prop,
    Sem.wp M Γ (nsSet a name v) Q E p s ↔ Q () p { s with heap := s.heap.update a (Obj.putName name hsh key v), toks := s.toks + 1 } := by
  obtain ⟨o, es, ep, ho, hd, hk, hm⟩ := hn
  apply Exists.intro
  apply Exists.intro
  intro Q
  simp only [nsSet, strHash, Sem.wp_bind', Sem.wp_cmd_ask, Sem.wp_pure', Sem.wp_cmd_mkText]
  rw [Sem.wp_loadPart_of M Γ E p { s with toks := s.toks + 1 } (o := o) _ ho]
  have hany : es.any (·.refKey) = false := by
    rw [Array.any_eq_false']; intro e he; obtain ⟨n, t, h⟩ := hk e he; simp [DictEntry.refKey, h]
  simp only [hd, aRefKeyMayBeTheName_at, hany, Bool.and_false, Bool.false_eq_true, if_false, Sem.wp_cmd_updatePart, ho, Option.isSome_some, true_and]
  exact Iff.rfl
theorem store_local {M : Model} {A : Around} {E : Value → Shared → Prop} {s : Shared} {env : Env} {name : PySem.Str} {m : PySem.Str → Option Value} {v : Value} {Q : Unit → Shared → Prop} (hl : env.kindOf name = some .local) (hn : s.heap.Ns env.locals m) (hk : env.scope.kind = .function)
    (h : ∀ h', h'.Ns env.locals (fun x => if x = name then some v else m x) → Heap.SameBut env.locals s.heap h' → (∀ o, s.heap.get? env.locals = some o → ∃ o', h'.get? env.locals = some o' ∧ o'.cls = o.cls ∧ ∀ vs, o'.data ≠ .fields vs) → Q () { s with heap := h', toks := s.toks + 1 }) : wpAny M A (storeName env name v) Q E s := by
  rw [storeName_local hl (by rw [hk]; rfl)]
  intro Γ p hΓ
  obtain ⟨hsh, key, he⟩ := nsSet_exact (M := M) (Γ := Γ) (E := fun e _ s' => E e s') (p := p) hn name v
  refine (he _).mpr ?_
  have lib := Sem.wp_nsSet M Γ (fun e _ s' => E e s') p s hn name v (fun _ _ s' => s'.heap.Ns env.locals (fun x => if x = name then some v else m x) ∧ Heap.SameBut env.locals s.heap s'.heap) fun h' h1 h2 => ⟨h1, h2⟩
  rw [he] at lib
  obtain ⟨l1, l2⟩ := lib
  refine h _ l1 l2 fun o ho => ?_
  obtain ⟨o₀, es, ep, ho₀, hd, _⟩ := hn
  rw [ho] at ho₀; cases ho₀
  obtain ⟨o₁, es₁, ep₁, ho₁, hd₁, _⟩ := l1
  have e := Heap.get?_update_self (Obj.putName name hsh key v) ho (putName_alive' _ _ _ _ _ _ _ hd)
  refine ⟨_, e, putName_cls _ _ _ _ _, fun vs q => ?_⟩
  have ho₁' : (s.heap.update env.locals (Obj.putName name hsh key v)).get? env.locals = some o₁ := ho₁
  rw [e] at ho₁'; cases ho₁'
  rw [hd₁] at q; cases q
end Mine
end

section
set_option Elab.async false
namespace Mine
open PySem PySem.W PySem.Calls PyProof.Rows

/-- a name of the def's got the value -/
structure Put (c : Cx) (x : String) (mv : Option Value) (m cm : PySem.Str → Option Value) (h h' : Heap) : Prop where
  keep : Kp c.fs c.own h h'
  alive : ∀ b o, h.get? b = some o → ∃ o', h'.get? b = some o'
  frame : ∀ o, h.get? c.env.locals = some o → ∃ o', h'.get? c.env.locals = some o' ∧ o'.cls = o.cls ∧ ∀ vs, o'.data ≠ .fields vs
  loc : ∃ m' cm', h'.Ns c.env.locals m' ∧ (∀ n k, c.env.cells.lookup n = some k → h'.IsCell k (cm' n)) ∧ atName c m' cm' (nm x) = mv ∧ ∀ y, y ≠ nm x → atName c m' cm' y = atName c m cm y
theorem same_alive {a : Addr} {h h' : Heap} (hs : Heap.SameBut a h h') (ha : ∃ o, h'.get? a = some o) : ∀ b o, h.get? b = some o → ∃ o', h'.get? b = some o' := fun b o e => by
  by_cases z : b = a
  · rw [z]; exact ha
  · exact ⟨o, hs.extBut b o z e⟩
theorem nodup_snd {l : List (PySem.Str × Addr)} (hn : (l.map (·.2)).Nodup) {n n' : PySem.Str} {a : Addr} (h1 : (n, a) ∈ l) (h2 : (n', a) ∈ l) : n = n' := by
  induction l with
  | nil => cases h1
  | cons p l ih =>
    rw [List.map_cons, List.nodup_cons] at hn
    rcases List.mem_cons.mp h1 with e1 | h1 <;> rcases List.mem_cons.mp h2 with e2 | h2
    · rw [← e2] at e1; exact (Prod.mk.inj e1).1
    · exact absurd (List.mem_map.mpr ⟨(n', a), h2, by rw [← e1]⟩) hn.1
    · exact absurd (List.mem_map.mpr ⟨(n, a), h1, by rw [← e2]⟩) hn.1
    · exact ih hn.2 h1 h2
section
variable {prog : Program} {w : World} {b0 : Heap} {mg mb : PySem.Str → Option Value} {consts : String → Option V} {r : Rec} {n : Nat} {c : Cx} {E : List Addr} {φ : Frm} {Ω Ω' : List (String × Addr)} {s : Shared} {Q : Flow → Shared → Prop} {Ex : Value → Shared → Prop} {A : Around}

theorem store_sound {x : String} {v : Value} {m cm : PySem.Str → Option Value} {QU : Unit → Shared → Prop} (ok : c.Ok n) (nd : c.own.Nodup) (hn : LName c.env.scope x) (h1 : s.heap.Ns c.env.locals m) (h2 : ∀ n k, c.env.cells.lookup n = some k → s.heap.IsCell k (cm n))
    (H : ∀ h' tk, Put c x (some v) m cm s.heap h' → QU () { s with heap := h', toks := tk }) : wpAny (model prog w) A (storeName c.env (nm x) v) QU Ex s := by
  have ndl : c.env.locals ∉ c.env.cells.map (·.2) := (List.nodup_cons.mp nd).1
  have ndc : (c.env.cells.map (·.2)).Nodup := (List.nodup_cons.mp nd).2
  rcases hn.1 with hl | hl
  · refine store_local hl h1 ok.kind fun h' hn' hs' hcl => H h' _ ⟨fun b o e hb => .inl (hs'.extBut b o (fun z => hb (by rw [z]; exact .head _)) e), same_alive hs' (let ⟨o, _, _, e, _⟩ := hn'; ⟨o, e⟩), hcl, _, cm, hn', fun y k hk => ?_, ?_, fun y hy => ?_⟩
    · exact (h2 y k hk).sameBut hs' fun z => ndl (by rw [← z]; exact List.mem_map.mpr ⟨_, lookup_mem hk, rfl⟩)
    · unfold atName Env.kindOf; rw [hl]; simp
    · unfold atName
      split
      · exact if_neg hy
      · rfl
      · rfl
      · rfl
  · obtain ⟨k, hk⟩ := ok.cells _ hl
    have hLk : c.env.locals ≠ k := fun z => ndl (by rw [z]; exact List.mem_map.mpr ⟨_, lookup_mem hk, rfl⟩)
    refine wpAny_storeName_cell ok.kind hl hk (h2 _ _ hk) fun h' hc' hs' => H h' _ ⟨fun b o e hb => .inl (hs'.extBut b o (fun z => hb (by rw [z]; exact .tail _ (List.mem_map.mpr ⟨_, lookup_mem hk, rfl⟩))) e), same_alive hs' (let ⟨o, e, _⟩ := hc'; ⟨o, e⟩), (fun o e => ⟨o, hs'.extBut _ o hLk e, rfl, (let ⟨o', es, ep, e', hd, _⟩ := h1; by rw [e] at e'; cases e'; intro vs q; rw [hd] at q; cases q)⟩), m, (fun y => if y = nm x then some v else cm y), h1.sameBut hs' ?_, fun y k' hk' => ?_, ?_, fun y hy => ?_⟩
    · exact fun z => ndl (by rw [z]; exact List.mem_map.mpr ⟨_, lookup_mem hk, rfl⟩)
    · by_cases z : y = nm x
      · subst z
        rw [hk] at hk'; cases hk'
        simpa using hc'
      · have e : (fun y => if y = nm x then some v else cm y) y = cm y := if_neg z
        rw [e]
        exact (h2 y k' hk').sameBut hs' fun e => z (nodup_snd ndc (lookup_mem hk') (e ▸ lookup_mem hk))
    · unfold atName Env.kindOf; rw [hl]; simp
    · unfold atName
      split
      · rfl
      · exact if_neg hy
      · exact if_neg hy
      · rfl
theorem StS.own_nodup {P : Program × World} {h : Heap} (st : StS P b0 c E φ Ω h) : c.own.Nodup := (List.nodup_append.mp st.nodup).1
theorem str_lookup_mem {β : Type} {n : String} {a : β} {l : List (String × β)} (h : l.lookup n = some a) : (n, a) ∈ l := look_mem h
theorem StS.not_own {P : Program × World} {h : Heap} (st : StS P b0 c E φ Ω h) {x : String} {a : Addr} (ha : Ω.lookup x = some a) : a ∉ c.own := fun z =>
  (List.nodup_append.mp st.nodup).2.2 a z a (List.mem_map.mpr ⟨_, str_lookup_mem ha, rfl⟩) rfl
theorem own_Y {a : Addr} (h : a ∈ c.own) : a ∈ c.Y Ω := List.mem_append_left _ h
theorem omega_Y {x : String} {a : Addr} (h : Ω.lookup x = some a) : a ∈ c.Y Ω := List.mem_append_right _ (List.mem_map.mpr ⟨_, str_lookup_mem h, rfl⟩)

theorem ff_of {l : List Env} {h h' : Heap} (hf : h.FunFrames b0 l) (k : ∀ b ∈ l.filterMap (·.frame), ∀ o, h.get? b = some o → (∀ vs, o.data ≠ .fields vs) → ∃ o', h'.get? b = some o' ∧ ∀ vs, o'.data ≠ .fields vs) : h'.FunFrames b0 l := by
  induction l with
  | nil => trivial
  | cons e l ih =>
    obtain ⟨h1, ⟨L, o, h2, h3, h4, h5⟩, h6⟩ := hf
    obtain ⟨o', e', hd⟩ := k L (List.mem_filterMap.mpr ⟨e, .head _, h2⟩) o h4 h5
    refine ⟨h1, ⟨L, _, h2, h3, e', hd⟩, ih h6 fun b hb => k b ?_⟩
    obtain ⟨x, hx, hxb⟩ := List.mem_filterMap.mp hb
    exact List.mem_filterMap.mpr ⟨x, .tail _ hx, hxb⟩
theorem Put.pre {x : String} {v : Option Value} {m cm : PySem.Str → Option Value} {h h₁ h' : Heap} (pt : Put c x v m cm h₁ h') (k : Kp c.fs [] h h₁) : Put c x v m cm h h' where
  keep := (k.weak fun _ z => nomatch z).trans pt.keep
  alive := fun b o e => by obtain ⟨sl, e'⟩ := k.there e (by simp); exact pt.alive b _ e'
  frame := fun o e => by
    obtain ⟨sl, e'⟩ := k.there e (by simp)
    obtain ⟨o', e'', hr⟩ := pt.frame { o with slots := sl } e'
    exact ⟨o', e'', hr⟩
  loc := pt.loc
theorem Put.post {x : String} {v : Option Value} {m cm : PySem.Str → Option Value} {h h₁ h' : Heap} {C : Addr} (pt : Put c x v m cm h h₁) (hs : Heap.SameBut C h₁ h') (hC : h.get? C = none) (ho : C ∉ c.own) : Put c x v m cm h h' where
  keep := pt.keep.trans' (Y' := [C]) (fun b o e hb => .inl (hs.extBut b o (fun z => hb (by rw [z]; exact .head _)) e)) fun b o e hb => by rw [List.mem_singleton] at hb; rw [hb, hC] at e; cases e
  alive := fun b o e => by
    obtain ⟨o', e'⟩ := pt.alive b o e
    exact ⟨o', hs.extBut b o' (fun z => by rw [z, hC] at e; cases e) e'⟩
  frame := fun o e => by
    obtain ⟨o', e', r⟩ := pt.frame o e
    exact ⟨o', hs.extBut _ o' (fun z => ho (by rw [← z]; exact .head _)) e', r⟩
  loc := by
    obtain ⟨m', cm', l1, l2, l3⟩ := pt.loc
    exact ⟨m', cm', l1.sameBut hs (fun z => ho (by rw [← z]; exact .head _)), fun n k hk => (l2 n k hk).sameBut hs fun z => ho (by rw [← z]; exact .tail _ (List.mem_map.mpr ⟨_, lookup_mem hk, rfl⟩)), l3⟩
theorem StS.put {P : Program × World} {x : String} {v : Option Value} {sl : Slot} {h h' : Heap} {m cm : PySem.Str → Option Value} (st : StS P b0 c E φ Ω h)
    (h3 : ∀ x sl, φ.lookup x = some sl → LName c.env.scope x → SlotAt P E (c.Y Ω) Ω h (atName c m cm (nm x)) x sl)
    (pt : Put c x v m cm h h') (hΩ : ∀ y, y ≠ x → Ω'.lookup y = Ω.lookup y) (hY : ∀ b ∈ c.Y Ω', b ∈ c.Y Ω ∨ (h.get? b = none ∧ ∃ o, h'.get? b = some o))
    (hnd : (c.own ++ Ω'.map (·.2)).Nodup) (hx : SlotAt P E (c.Y Ω') Ω' h' v x sl) (hacc : ∀ ds a, sl = .acc ds → Ω'.lookup x = some a → a ∉ E) : StS P b0 c E (upd x sl φ) Ω' h' := by
  obtain ⟨m', cm', l1, l2, l3, l4⟩ := pt.loc
  have kk := pt.keep
  have up : UpAt (fun a => a ∉ c.Y Ω) h h' := kk.up fun b hb z => hb (own_Y z)
  have nY : ∀ b o, h.get? b = some o → b ∉ c.Y Ω → b ∉ c.Y Ω' := fun b o e hb z => by
    rcases hY b z with z | ⟨z, _⟩
    · exact hb z
    · rw [z] at e; cases e
  have fsF : ∀ b ∈ c.fs, ∀ o, h.get? b = some o → (∀ vs, o.data ≠ .fields vs) → ∃ o', h'.get? b = some o' ∧ o'.cls = o.cls ∧ ∀ vs, o'.data ≠ .fields vs := fun b hb o e hd => by
    by_cases z : b = c.env.locals
    · subst z; exact pt.frame o e
    · obtain ⟨sl, e'⟩ := kk.there e (fun q => st.apart b hb z (own_Y q))
      exact ⟨_, e', rfl, hd⟩
  refine ⟨⟨fun b o e => ?_, ?_, ?_, ⟨m', cm', l1, l2, fun y sl' hl hy => ?_⟩, fun a ha => ?_, fun a ha => ?_⟩, hnd, fun y hy => ?_, fun y ds a hl ha => ?_, fun b hb hl z => ?_⟩
  · rcases kk b o (st.st.stay b o e) (fun z => by rw [st.st.off b (.inr (own_Y z))] at e; cases e) with e' | ⟨hm, _⟩
    · exact e'
    · have := (st.st.ff.mem hm).1; rw [e] at this; cases this
  · exact ff_of st.st.ff fun b hb o e hd => let ⟨o', e', _, hd'⟩ := fsF b hb o e hd; ⟨o', e', hd'⟩
  · intro b hb
    obtain ⟨o, e, hc⟩ := st.st.fc b hb
    obtain ⟨_, o₂, e₂, hd⟩ := st.st.ff.mem hb
    rw [e] at e₂; cases e₂
    obtain ⟨o', e', hc', _⟩ := fsF b hb o e hd
    exact ⟨o', e', hc'.trans hc⟩
  · rw [upd_lookup] at hl
    by_cases e : y = x
    · subst e
      rw [if_pos rfl] at hl; cases hl
      rw [l3]; exact hx
    · rw [if_neg e] at hl
      rw [l4 _ fun z => e (nm_inj z)]
      have q := h3 y sl' hl hy
      cases sl' with
      | val d f =>
        obtain ⟨v, ev, rv⟩ := q
        exact ⟨v, ev, rv.mono (fun b o hb e hh => up b o hb.2 e hh) fun b o hb e => ⟨hb.1, nY b o e hb.2⟩⟩
      | acc ds =>
        obtain ⟨a, vs, q1, q2, q4, q5⟩ := q
        exact ⟨a, vs, (hΩ y e).trans q1, q2, q4.up fun o e hc => kk.same e (st.not_own q1) hc, q5.mono (fun b o hb e hh => up b o hb.2 e hh) fun b o hb e => ⟨hb.1, nY b o e hb.2⟩⟩
      | tab kvs =>
        obtain ⟨a, q1, q2, ps, ds, t1, t2, t3, t4, t5⟩ := q
        exact ⟨a, (hΩ y e).trans q1, q2, ps, ds, dict_up t1 (fun o e hc => kk.same e (st.not_own q1) hc), t2, t3.mono (fun b o hb e hh => up b o hb.2 e hh) (fun b o hb e => ⟨hb.1, nY b o e hb.2⟩), t4, t5⟩
      | gone => trivial
  · have al : ∀ a, a ∈ E ∨ a ∈ c.Y Ω → ∃ o, h'.get? a = some o := fun a ha => by
      obtain ⟨o, e⟩ := st.st.alive a ha
      exact pt.alive a o e
    rcases ha with ha | ha
    · exact al a (.inl ha)
    · rcases hY a ha with z | ⟨_, z⟩
      · exact al a (.inr z)
      · exact z
  · rcases ha with ha | ha
    · exact st.st.off a (.inl ha)
    · rcases hY a ha with z | ⟨z, _⟩
      · exact st.st.off a (.inr z)
      · cases e : b0.get? a with
        | none => rfl
        | some o => rw [st.st.stay a o e] at z; cases z
  · rw [upd_lookup] at hy
    by_cases e : y = x
    · rw [if_pos e] at hy; cases hy
    · rw [if_neg e] at hy; rw [hΩ y e]; exact st.dom y hy
  · rw [upd_lookup] at hl
    by_cases e : y = x
    · subst e; rw [if_pos rfl] at hl; cases hl; exact hacc ds a rfl ha
    · rw [if_neg e] at hl; rw [hΩ y e] at ha; exact st.accE y ds a hl ha
  · rcases hY b z with z | ⟨z, _⟩
    · exact st.apart b hb hl z
    · obtain ⟨o, e, _⟩ := st.st.fc b hb; rw [z] at e; cases e
end
end Mine
end

section
set_option Elab.async false
namespace Mine
open PySem PySem.W PySem.Calls PyProof.Rows

section
variable {prog : Program} {w : World} {b0 : Heap} {mg mb : PySem.Str → Option Value} {consts : String → Option V} {r : Rec} {n : Nat} {c : Cx} {E : List Addr} {φ : Frm} {Ω Ω' : List (String × Addr)} {s : Shared} {Q : Flow → Shared → Prop} {Ex : Value → Shared → Prop} {A : Around}

theorem Put.kp {x : String} {v : Option Value} {m cm : PySem.Str → Option Value} {h h' : Heap} (pt : Put c x v m cm h h') : Kp c.fs (c.Y Ω) h h' := pt.keep.weak fun _ z => own_Y z
/-- a name gets a frozen datum -/
theorem put_val {x : String} {v : Value} {d : V} {h₁ : Heap} {tk₁ : Nat} (ok : c.Ok n) (st : StS (prog, w) b0 c E φ Ω s.heap) (hn : LName c.env.scope x) (k₁ : Kp c.fs [] s.heap h₁) (rv : R (prog, w) (fun a => a ∉ E ∧ a ∉ c.Y Ω) h₁ v d) {QU : Unit → Shared → Prop}
    (H : ∀ h' tk, Kp c.fs (c.Y Ω) s.heap h' → StS (prog, w) b0 c E (upd x (.val d true) φ) Ω h' → QU () { s with heap := h', toks := tk }) : wpAny (model prog w) A (storeName c.env (nm x) v) QU Ex { s with heap := h₁, toks := tk₁ } := by
  have st₁ := st.kp k₁
  obtain ⟨m, cm, h1, h2, h3⟩ := st₁.st.loc
  refine store_sound (s := { s with heap := h₁, toks := tk₁ }) ok st.own_nodup hn h1 h2 fun h' tk pt => H h' tk ((k₁.weak fun _ z => nomatch z).trans pt.kp) ?_
  exact st₁.put h3 pt (fun _ _ => rfl) (fun b hb => .inl hb) st.nodup ⟨v, rfl, rv.mono (pt.keep.up fun b hb z => hb.2 (own_Y z)) fun _ _ x _ => ⟨fun _ => x.1, x.2⟩⟩ fun ds a e => nomatch e
theorem ex_assign {x : String} {xp p : Pos} {v : Expr} {e : IE} (hE : SEv prog w b0 r n) (ok : c.Ok n) (st : StS (prog, w) b0 c E φ Ω s.heap) (hn : LName c.env.scope x) (hv : CE c.env.scope v e) (hc : isComp e = false)
    (H : G (exI r φ (.assign x e)) (ExPost (prog, w) b0 c E Ω s Q) (XPostS b0 c Ω s Ex)) : wpAny (model prog w) c.A (exec (.Assign [.Name (nm x) xp] v p) c.env) Q Ex s := by
  dsimp only [exI] at H
  refine wpAny_Assign_Name (hE c E φ Ω s _ _ _ _ ok st.st hv (H.bind.mono (fun u _ Hu v' h₁ tk₁ k₁ r₁ => ?_) fun _ _ X => X.now st.st)) (hv.swN hc)
  obtain ⟨rv, Hu⟩ := Hu.bind.fz r₁
  exact put_val ok st hn k₁ rv fun h' tk k st' => Hu .next h' tk Ω trivial k .refl st'
theorem ex_assignComp {y x : String} {yp px cp p : Pos} {elt iter : Expr} {ifs : List Expr} {cs : Scope} {ei : IE} {it : It} {cond : Option TE} (S : Stat (prog, w) b0 mg mb consts) (hE : SEv prog w b0 r n) (hT : STs prog w b0 r n)
    (ok : c.Ok n) (st : StS (prog, w) b0 c E φ Ω s.heap) (hl : c.env.scope.names.lookup (nm y) = some .local) (hd : (nm y == ("__debug__" : PySem.Str)) = false) (h0 : y ≠ ".0") (hline : (yp.line == cp.line) = true)
    (hnot : (cs.names.any fun z => z.1 == nm y && (z.2 == .local || z.2 == .cell)) = false) (hsc : CompSc cs c.env.scope x) (hi : CI c.env.scope iter it) (he : CE (relab cs c.env.scope) elt ei) (hc : CIf (relab cs c.env.scope) ifs cond)
    (H : G ((evI consts r φ (.comp ei x it cond)).bind fun u => (fzV u).bind fun d => .ok (.next, upd y (.val d true) φ)) (ExPost (prog, w) b0 c E Ω s Q) (XPostS b0 c Ω s Ex)) :
    wpAny (model prog w) c.A (exec (.Assign [.Name (nm y) yp] (.ListComp elt [⟨.Name (nm x) px, iter, ifs, 0⟩] cs cp) p) c.env) Q Ex s := by
  have hsw : swapsWith (.ListComp elt [⟨.Name (nm x) px, iter, ifs, 0⟩] cs cp) (some (.Name (nm y) yp)) p.line c.env = pure true := by
    unfold swapsWith
    have e1 : (c.env.blockKind == ScopeKind.function) = true := by unfold Env.blockKind; rw [ok.kind]; rfl
    have e2 : (c.env.kindOf (nm y) == some NameKind.local) = true := by unfold Env.kindOf; rw [hl]; rfl
    show (pure (c.env.blockKind == .function && c.env.kindOf (nm y) == some .local && yp.line == cp.line && !(cs.names.any fun (n, k) => n == nm y && (k == .local || k == .cell))) : Sem Bool) = pure true
    rw [e1, e2, hline, hnot]; rfl
  rw [exec_Assign_Name_used _ _ _ _ hsw]
  refine wpAny_bind (wpAny_standAt (wpAny_bind ?_))
  show wpAny _ c.A (do let _ ← comprehension (.ListComp elt [⟨.Name (nm x) px, iter, ifs, 0⟩] cs cp) cs c.env _ (newList []) false (eval iter c.env) (some (assign (.Name (nm y) yp) c.env))) _ _ s
  refine wpAny_bind (wpAny_mono (wpAny_comprehension_free (use := some (assign (.Name (nm y) yp) c.env)) (Q := fun _ s' => Q .next s') rfl (fun v => hi.noSet _ v) (clos_pure ok hsc) hsc.kind hsc.names
    (comp_run S hE hT ok hsc st.st hi he hc (RR := fun acc C => compPost (model prog w) c.A Ex (some (assign (.Name (nm y) yp) c.env)) (fun _ s' => Q .next s') acc C) (X := XPostS b0 c Ω s Ex) (fun _ X => X.now st.st) (H.bind.mono (fun u hu Hu => ?_) fun _ _ X => X))) (fun _ s' hq => wpAny_pure (wpAny_pure hq)) fun _ _ e => e)
  obtain ⟨es, rfl⟩ := comp_list hu
  have Hu' : ExPost (prog, w) b0 c E Ω s Q (.next, upd y (.val (.list es) true) φ) := Hu
  refine ⟨es, rfl, fun D C h' tk m' hDC hD hC hn rv kp => ?_⟩
  show wpAny _ c.A (assign (.Name (nm y) yp) c.env (.ref D)) _ _ _
  have hCown : C ∉ c.own := fun z => by obtain ⟨o, e⟩ := st.st.alive C (.inr (own_Y z)); rw [hC] at e; cases e
  obtain ⟨m, cm, h1, h2, h3⟩ := st.st.loc
  have cells' : ∀ n k, c.env.cells.lookup n = some k → h'.IsCell k (cm n) := fun n k e => by
    obtain ⟨o, e', hd⟩ := h2 n k e
    obtain ⟨sl, e''⟩ := kp.there e' (by simp)
    exact ⟨_, e'', hd⟩
  refine wpAny_assign_Name (store_sound (s := { s with heap := h', toks := tk }) ok st.own_nodup ⟨.inl hl, hd, h0⟩ (kp.slots.ns h1) cells' fun h'' tk' pt => ?_)
  have hnf : ∀ o, h'.get? C = some o → h''.get? C = some o := fun o e => pt.keep.off e hCown fun z => by
    obtain ⟨o, e, _⟩ := st.st.fc C z; rw [hC] at e; cases e
  refine ⟨m', hn.at' hnf, fun h₃ hs₃ => ?_⟩
  have pt₃ := (pt.pre kp).post hs₃ hC hCown
  have rv₃ : R (prog, w) (fun a => (true = true → a ∉ E) ∧ a ∉ c.Y Ω) h₃ (.ref D) (.list es) :=
    (rv.mono (pt.keep.up fun b hb z => hb.2.1 (own_Y z)) fun _ _ x _ => x).mono (fun b o hb e _ => hs₃.extBut b o hb.2.2 e) fun _ _ x _ => ⟨fun _ => x.1, x.2.1⟩
  exact Hu' .next h₃ _ Ω trivial pt₃.kp .refl (st.put h3 pt₃ (fun _ _ => rfl) (fun b hb => .inl hb) st.nodup ⟨.ref D, rfl, rv₃⟩ fun ds a e => nomatch e)
end
end Mine
end

section
set_option Elab.async false
namespace Mine
open PySem PySem.W PySem.Calls PyProof.Rows

noncomputable def frz : Slot → Slot
  | .acc ds => .val (.list ds) true
  | sl => sl
theorem freeze_lookup {x : String} {φ : Frm} : (freeze φ).lookup x = (φ.lookup x).map frz := by
  induction φ with
  | nil => rfl
  | cons p r ih =>
    obtain ⟨y, sl⟩ := p
    cases sl <;> (show List.lookup x ((y, _) :: freeze r) = _; rw [List.lookup_cons, List.lookup_cons, ih]; split <;> rfl)
noncomputable def isAcc (φ : Frm) (x : String) : Bool := match φ.lookup x with
  | some (.acc _) => true
  | _ => false
theorem lookup_filter {x : String} (p : String → Bool) {l : List (String × Addr)} : (l.filter fun q => p q.1).lookup x = if p x then l.lookup x else none := by
  induction l with
  | nil => cases p x <;> rfl
  | cons q l ih =>
    obtain ⟨y, a⟩ := q
    rw [List.filter_cons]
    by_cases hy : p y = true
    · rw [if_pos hy, List.lookup_cons, List.lookup_cons, ih]
      by_cases e : x = y
      · subst e; simp [hy]
      · rw [beq_eq_false_iff_ne.mpr e]
    · rw [if_neg hy, ih, List.lookup_cons]
      by_cases e : x = y
      · subst e; simp [hy]
      · rw [beq_eq_false_iff_ne.mpr e]
theorem nodup_snd' {l : List (String × Addr)} (hn : (l.map (·.2)).Nodup) {n n' : String} {a : Addr} (h1 : (n, a) ∈ l) (h2 : (n', a) ∈ l) : n = n' := by
  induction l with
  | nil => cases h1
  | cons p l ih =>
    rw [List.map_cons, List.nodup_cons] at hn
    rcases List.mem_cons.mp h1 with e1 | h1 <;> rcases List.mem_cons.mp h2 with e2 | h2
    · rw [← e2] at e1; exact (Prod.mk.inj e1).1
    · exact absurd (List.mem_map.mpr ⟨(n', a), h2, by rw [← e1]⟩) hn.1
    · exact absurd (List.mem_map.mpr ⟨(n, a), h1, by rw [← e2]⟩) hn.1
    · exact ih hn.2 h1 h2
section
variable {prog : Program} {w : World} {b0 : Heap} {mg mb : PySem.Str → Option Value} {consts : String → Option V} {r : Rec} {n : Nat} {c : Cx} {E : List Addr} {φ : Frm} {Ω Ω' : List (String × Addr)} {s : Shared} {Q : Flow → Shared → Prop} {Ex : Value → Shared → Prop} {A : Around}

/-- at the end of a def its own lists are data like any other -/
theorem StS.freeze {P : Program × World} {h : Heap} (st : StS P b0 c E φ Ω h) : ∃ Ω', St P b0 c E (freeze φ) Ω' h ∧ ∀ a ∈ c.Y Ω', a ∈ c.Y Ω := by
  refine ⟨Ω.filter fun q => !isAcc φ q.1, ?_, ?_⟩
  · have hsub : ∀ a ∈ c.Y (Ω.filter fun q => !isAcc φ q.1), a ∈ c.Y Ω := fun a ha => by
      rcases List.mem_append.mp ha with ha | ha
      · exact List.mem_append_left _ ha
      · obtain ⟨p, hp, rfl⟩ := List.mem_map.mp ha
        exact List.mem_append_right _ (List.mem_map.mpr ⟨p, (List.mem_filter.mp hp).1, rfl⟩)
    obtain ⟨m, cm, h1, h2, h3⟩ := st.st.loc
    refine ⟨st.st.stay, st.st.ff, st.st.fc, ⟨m, cm, h1, h2, fun x sl hl hn => ?_⟩, fun a ha => st.st.alive a (ha.imp_right (hsub a)), fun a ha => st.st.off a (ha.imp_right (hsub a))⟩
    rw [freeze_lookup] at hl
    cases hq : φ.lookup x with
    | none => rw [hq] at hl; cases hl
    | some sl₀ =>
      rw [hq] at hl
      cases hl
      have q := h3 x sl₀ hq hn
      cases sl₀ with
      | val d f =>
        obtain ⟨v, e, rv⟩ := q
        exact ⟨v, e, rv.weak fun a ha => ⟨ha.1, fun z => ha.2 (hsub a z)⟩⟩
      | acc ds =>
        obtain ⟨a, vs, q1, q2, q4, q5⟩ := q
        refine ⟨.ref a, q2, .of_list ⟨fun _ => st.accE x ds a hq q1, fun z => ?_⟩ q4.list (q5.weak fun b hb => ⟨fun _ => hb.1, fun z => hb.2 (hsub b z)⟩)⟩
        rcases List.mem_append.mp z with z | z
        · exact st.not_own q1 z
        · obtain ⟨⟨y, a'⟩, hp, rfl⟩ := List.mem_map.mp z
          obtain ⟨hp1, hp2⟩ := List.mem_filter.mp hp
          have : y = x := nodup_snd' (List.nodup_append.mp st.nodup).2.1 hp1 (str_lookup_mem q1)
          subst this
          unfold isAcc at hp2
          rw [hq] at hp2
          cases hp2
      | tab kvs =>
        obtain ⟨a, q1, q2, T⟩ := q
        refine ⟨a, ?_, q2, T.up (fun o e _ => e) (fun b o _ e _ => e) fun b hb => ⟨hb.1, fun z => hb.2 (hsub b z)⟩⟩
        rw [lookup_filter fun y => !isAcc φ y]
        have : isAcc φ x = false := by unfold isAcc; rw [hq]
        rw [this]; exact q1
      | gone => trivial
  · intro a ha
    rcases List.mem_append.mp ha with ha | ha
    · exact List.mem_append_left _ ha
    · obtain ⟨p, hp, rfl⟩ := List.mem_map.mp ha
      exact List.mem_append_right _ (List.mem_map.mpr ⟨p, (List.mem_filter.mp hp).1, rfl⟩)
theorem ex_ret {e : Expr} {i : IE} {p : Pos} (hE : SEv prog w b0 r n) (ok : c.Ok n) (st : StS (prog, w) b0 c E φ Ω s.heap) (he : CE c.env.scope e i) (H : G (exI r φ (.ret i)) (ExPost (prog, w) b0 c E Ω s Q) (XPostS b0 c Ω s Ex)) :
    wpAny (model prog w) c.A (exec (.Return (some e) p) c.env) Q Ex s := by
  dsimp only [exI] at H
  obtain ⟨Ω', stf, _⟩ := st.freeze
  refine wpAny_Return_some (hE c E (Mine.freeze φ) Ω' s _ _ _ _ ok stf he (H.bind.mono (fun u _ Hu v h₁ tk₁ k₁ r₁ => ?_) fun _ _ X => X.now st.st))
  exact (show ExPost (prog, w) b0 c E Ω s Q (.ret u.1 u.2, φ) from Hu) (.ret v) h₁ tk₁ Ω (r₁.weak fun a x hf => (x hf).1) (k₁.weak fun _ z => nomatch z) .refl (st.kp k₁)
theorem ex_ite {t : Expr} {a b : List Stmt} {p : Pos} {ti : TE} {ai bi : List IS} (hT : STs prog w b0 r n) (hX : SEx prog w b0 r n) (ok : c.Ok n) (hf : c.Fn) (hp : Passes prog w c Ex) (st : StS (prog, w) b0 c E φ Ω s.heap) (ht : CT c.env.scope t ti) (ha : CB c.env.scope a ai) (hb : CB c.env.scope b bi)
    (H : G (exI r φ (.ite ti ai bi)) (ExPost (prog, w) b0 c E Ω s Q) (XPostS b0 c Ω s Ex)) : wpAny (model prog w) c.A (exec (.If t a b p) c.env) Q Ex s := by
  dsimp only [exI] at H
  refine wpAny_If (hT c E φ Ω s _ _ _ _ ok st.st ht (H.bind.mono (fun q _ Hq h₁ tk₁ k₁ => ?_) fun _ _ X => X.now st.st))
  have kw : Kp c.fs (c.Y Ω) s.heap h₁ := k₁.weak fun _ z => nomatch z
  cases q with
  | true => exact blk_sound (s := { s with heap := h₁, toks := tk₁ }) hX ok hf hp ha (st.kp k₁) (G.mono (show G (blk r φ ai) (ExPost (prog, w) b0 c E Ω s Q) (XPostS b0 c Ω s Ex) from Hq) (fun _ _ Hu => Hu.step kw .refl) fun _ _ X => X.step kw .refl)
  | false => exact blk_sound (s := { s with heap := h₁, toks := tk₁ }) hX ok hf hp hb (st.kp k₁) (G.mono (show G (blk r φ bi) (ExPost (prog, w) b0 c E Ω s Q) (XPostS b0 c Ω s Ex) from Hq) (fun _ _ Hu => Hu.step kw .refl) fun _ _ X => X.step kw .refl)
theorem ex_cont {p : Pos} (st : StS (prog, w) b0 c E φ Ω s.heap) (H : G (exI r φ .cont) (ExPost (prog, w) b0 c E Ω s Q) (XPostS b0 c Ω s Ex)) : wpAny (model prog w) c.A (exec (.Continue p) c.env) Q Ex s :=
  wpAny_Continue ((show ExPost (prog, w) b0 c E Ω s Q (.cont, φ) from H) .cont s.heap s.toks Ω trivial .refl .refl st)
theorem ex_brk {p : Pos} (st : StS (prog, w) b0 c E φ Ω s.heap) (H : G (exI r φ .brk) (ExPost (prog, w) b0 c E Ω s Q) (XPostS b0 c Ω s Ex)) : wpAny (model prog w) c.A (exec (.Break p) c.env) Q Ex s :=
  wpAny_Break ((show ExPost (prog, w) b0 c E Ω s Q (.brk, φ) from H) .brk s.heap s.toks Ω trivial .refl .refl st)

/-- a name gets a new object of our own -/
theorem put_new {x : String} {o : Obj} {sl : Slot} {tk₁ : Nat} (ok : c.Ok n) (st : StS (prog, w) b0 c E φ Ω s.heap) (hn : LName c.env.scope x) (hx : φ.lookup x = none) (ho : o.cls ≠ .type "frame") (hfr : o.isFreed = false)
    (hsl : ∀ h', h'.get? s.heap.objs.size = some o → SlotAt (prog, w) E (c.Y ((x, s.heap.objs.size) :: Ω)) ((x, s.heap.objs.size) :: Ω) h' (some (.ref s.heap.objs.size)) x sl)
    (H : ExPost (prog, w) b0 c E Ω s Q (.next, upd x sl φ)) : wpAny (model prog w) A (storeName c.env (nm x) (.ref s.heap.objs.size)) (fun _ => Q .next) Ex { s with heap := s.heap.push o, toks := tk₁ } := by
  obtain ⟨m, cm, h1, h2, h3⟩ := st.st.loc
  have hΩx : Ω.lookup x = none := st.dom x hx
  have fr := st.st.fresh (Nat.le_refl _)
  have cells' : ∀ n k, c.env.cells.lookup n = some k → (s.heap.push o).IsCell k (cm n) := fun n k e => by
    obtain ⟨ob, e', hd⟩ := h2 n k e
    exact ⟨_, Heap.get?_push_of_some _ e', hd⟩
  refine store_sound (s := { s with heap := s.heap.push o, toks := tk₁ }) ok st.own_nodup hn ((push_kp (fs := []) (Y := []) o).slots.ns h1) cells' fun h' tk pt => ?_
  have pt₀ := pt.pre (push_kp o)
  have ha' : h'.get? s.heap.objs.size = some o := pt.keep.same (Heap.get?_push_size _ hfr) (fun z => fr.2 (own_Y z)) ho
  have hY : ∀ b ∈ c.Y ((x, s.heap.objs.size) :: Ω), b ∈ c.Y Ω ∨ (s.heap.get? b = none ∧ ∃ o, h'.get? b = some o) := fun b hb => by
    rcases List.mem_append.mp hb with hb | hb
    · exact .inl (List.mem_append_left _ hb)
    · rw [List.map_cons] at hb
      rcases List.mem_cons.mp hb with rfl | hb
      · exact .inr ⟨gone_of_le (Nat.le_refl _), _, ha'⟩
      · exact .inl (List.mem_append_right _ hb)
  have hΩ : ∀ y, y ≠ x → ((x, s.heap.objs.size) :: Ω).lookup y = Ω.lookup y := fun y hy => by rw [List.lookup_cons, beq_eq_false_iff_ne.mpr hy]
  have hnd : (c.own ++ ((x, s.heap.objs.size) :: Ω).map (·.2)).Nodup := by
    have := st.nodup
    rw [List.nodup_append] at this ⊢
    refine ⟨this.1, ?_, fun a ha b hb => ?_⟩
    · rw [List.map_cons, List.nodup_cons]
      exact ⟨fun z => fr.2 (List.mem_append_right _ z), this.2.1⟩
    · rw [List.map_cons] at hb
      rcases List.mem_cons.mp hb with rfl | hb
      · rintro rfl; exact fr.2 (own_Y ha)
      · exact this.2.2 a ha b hb
  have stf := st.put h3 pt₀ hΩ hY hnd (hsl h' ha') fun ds a _ ha => by
    rw [List.lookup_cons, beq_self_eq_true] at ha
    cases ha; exact fr.1
  refine H .next h' tk _ trivial pt₀.kp ⟨fun y a e => ?_, fun a ha => ?_⟩ stf
  · by_cases z : y = x
    · subst z; rw [hΩx] at e; cases e
    · rw [hΩ y z]; exact e
  · rcases hY a ha with z | ⟨z, _⟩
    · exact .inl z
    · exact .inr z
theorem ex_newAcc {x : String} {xp lp p : Pos} (ok : c.Ok n) (st : StS (prog, w) b0 c E φ Ω s.heap) (hn : LName c.env.scope x) (H : G (exI r φ (.newAcc x)) (ExPost (prog, w) b0 c E Ω s Q) (XPostS b0 c Ω s Ex)) :
    wpAny (model prog w) c.A (exec (.Assign [.Name (nm x) xp] (.List [] lp) p) c.env) Q Ex s := by
  dsimp only [exI] at H
  cases hx : φ.lookup x with
  | some sl => rw [hx] at H; exact H.elim
  | none =>
    rw [hx] at H
    refine wpAny_Assign_Name (List_ (args_nil (wpAny_newList (put_new (sl := .acc []) ok st hn hx (noFrame rfl (by decide)) rfl (fun h' e => ⟨_, [], by rw [List.lookup_cons, beq_self_eq_true], rfl, ⟨⟨_, e⟩, Nat.zero_le _⟩, .nil⟩) H) (Nat.zero_le _))))
theorem ex_newTab {x : String} {xp dp p : Pos} (S : Stat (prog, w) b0 mg mb consts) (ok : c.Ok n) (st : StS (prog, w) b0 c E φ Ω s.heap) (hn : LName c.env.scope x) (H : G (exI r φ (.newTab x)) (ExPost (prog, w) b0 c E Ω s Q) (XPostS b0 c Ω s Ex)) :
    wpAny (model prog w) c.A (exec (.Assign [.Name (nm x) xp] (.Dict [] [] dp) p) c.env) Q Ex s := by
  dsimp only [exI] at H
  cases hx : φ.lookup x with
  | some sl => rw [hx] at H; exact H.elim
  | none =>
    rw [hx] at H
    have hlow : (s.heap.objs.size == sysModules) = false := by
      exact beq_eq_false_iff_ne.mpr (Nat.ne_of_gt (modules_low (S.nolimit.keeps st.st.stay)))
    refine wpAny_Assign_Name (wpAny_Dict_empty (put_new (sl := .tab []) ok st hn hx (noFrame rfl (by decide)) rfl (fun h' e => ⟨_, by rw [List.lookup_cons, beq_self_eq_true], rfl, [], [], ⟨_, #[], 0, e, ⟨rfl, rfl, rfl⟩, rfl, fun _ he => by simp at he, Pairs.nil, List.nodup_nil⟩, hlow, .nil, ⟨Nat.zero_le _, fun p hp => nomatch hp⟩, rfl⟩) H))
theorem ex_raise0 {np cp p : Pos} {e : Expr} {i : IE} (S : Stat (prog, w) b0 mg mb consts) (hE : SEv prog w b0 r n) (ok : c.Ok n) (st : StS (prog, w) b0 c E φ Ω s.heap) (hn : GName c.env.scope "ValueError") (he : CE c.env.scope e i)
    (H : G (raiseI r φ i) (ExPost (prog, w) b0 c E Ω s Q) (XPost0 c s Ex)) : wpAny (model prog w) c.A (exec (.Raise (some (.Call (.Name (nm "ValueError") np) [e] [] cp)) none p) c.env) Q Ex s := by
  dsimp only [raiseI] at H
  refine wpAny_Raise_call F.excCall_ValueError F.excRaise_ValueError ok.handled ((CEs.add he .nil).plain _ _) (ld_boot S ok st.st hn (S.free _ (by decide)) boot_ve (by decide) ⟨rfl, ?_⟩)
  rw [he.star]
  refine evalArgs_plain ?_
  show wpAny _ _ (spliced [(false, eval e c.env)]) _ _ _
  refine spliced_cons ?_
  refine hE c E φ Ω s _ _ _ _ ok st.st he (H.bind.mono (fun u _ Hu v h₁ tk₁ k₁ r₁ => spliced_nil ?_) fun _ _ X => X.now)
  obtain ⟨x, t, rfl, hx, Hu⟩ := Hu.rStr r₁
  refine ⟨rfl, by rw [sizeLine_eq]; exact Nat.le_of_ble_eq_true rfl, fun h' e hm => ?_⟩
  obtain ⟨ta, e1, e2, e3⟩ := hm.there
  exact (show XPost0 c s Ex (x, true) from Hu) h₁ e h' tk₁ k₁ (.inr (.inl ⟨hm.keeps, hm.new, ⟨_, _, ta, t, e1, rfl, rfl, rfl, rfl, fun _ => rfl, e2, ⟨_, _, e3, rfl, rfl⟩⟩, hx⟩))
end
end Mine
end

section
set_option Elab.async false
namespace Mine
open PySem PySem.W PySem.Calls PyProof.Rows

theorem updAll_len {f : Bool} {xs : List String} {ds : List V} {φ : Frm} {P : Frm → Prop} {X : Msg → Prop} (H : G (updAll f xs ds φ) P X) : xs.length = ds.length := by
  induction xs generalizing ds φ with
  | nil => cases ds with
    | nil => rfl
    | cons => exact (show False from H).elim
  | cons x xs ih => cases ds with
    | nil => exact (show False from H).elim
    | cons d ds => rw [List.length_cons, List.length_cons, ih (G.need (p := (f || d.atom) = true) H).2]
theorem updAll_RA {f : Bool} {xs : List String} {ds : List V} {φ : Frm} {PF : Frm → Prop} {X : Msg → Prop} {P : Program × World} {ok : Addr → Prop} {h : Heap} {vs : List Value} (H : G (updAll f xs ds φ) PF X) (ra : RA P (fun a => f = true → ok a) h vs ds) : RA P ok h vs ds := by
  induction xs generalizing ds φ vs with
  | nil => cases ra with
    | nil => exact .nil
    | cons => exact (show False from H).elim
  | cons x xs ih => cases ra with
    | nil => exact (show False from H).elim
    | cons r ra =>
      obtain ⟨q, H⟩ := G.need (p := (f || V.atom _) = true) H
      refine .cons ?_ (ih H ra)
      rcases Bool.or_eq_true_iff.mp q with q | q
      · exact r.weak fun _ x => x q
      · exact r.atom_any q
section
variable {prog : Program} {w : World} {b0 : Heap} {mg mb : PySem.Str → Option Value} {consts : String → Option V} {r : Rec} {n : Nat} {c : Cx} {E : List Addr} {φ : Frm} {Ω Ω' : List (String × Addr)} {s : Shared} {Q : Flow → Shared → Prop} {QU : Unit → Shared → Prop} {Ex : Value → Shared → Prop} {A : Around}

theorem CNs.length {sc : Scope} {es : List Expr} {xs : List String} (h : CNs sc es xs) (env : Env) : (assignEach es env).length = xs.length ∧ (assignEach es env).findIdx? (·.1) = none := by
  induction h with
  | nil => exact ⟨rfl, rfl⟩
  | cons _ _ _ ih =>
    refine ⟨?_, ?_⟩
    · show (_ :: assignEach _ env).length = _; rw [List.length_cons, List.length_cons, ih.1]
    · show ((false, _) :: assignEach _ env).findIdx? (·.1) = none; rw [List.findIdx?_cons]; simp only [Bool.false_eq_true, if_false]; rw [ih.2]; rfl
theorem names_sound (ok : c.Ok n) {f : Bool} {X : Msg → Prop} {es : List Expr} {xs : List String} (hc : CNs c.env.scope es xs) : ∀ {vs : List Value} {ds : List V} {φ : Frm} {s : Shared}, StS (prog, w) b0 c E φ Ω s.heap → RA (prog, w) (fun a => a ∉ E ∧ a ∉ c.Y Ω) s.heap vs ds →
    G (updAll f xs ds φ) (fun φ' => ∀ h' tk, Kp c.fs (c.Y Ω) s.heap h' → StS (prog, w) b0 c E φ' Ω h' → QU () { s with heap := h', toks := tk }) X → wpAny (model prog w) A (assignInOrder ((assignEach es c.env).map (·.2)) vs) QU Ex s := by
  induction hc with
  | nil =>
    intro vs ds φ s st ra H
    cases ra with
    | nil => exact wpAny_pure (H s.heap s.toks .refl st)
    | cons => exact (show False from H).elim
  | cons hx _ _ ih =>
    intro vs ds φ s st ra H
    cases ra with
    | nil => exact (show False from H).elim
    | cons rv ra =>
      rename_i x p es xs _ _ v vs d ds
      obtain ⟨q, H⟩ := G.need (p := (f || d.atom) = true) H
      show wpAny _ _ (do holding vs (assign (.Name (nm x) p) c.env v); assignInOrder ((assignEach es c.env).map (·.2)) vs) QU Ex s
      refine wpAny_bind (wpAny_holding (wpAny_assign_Name (put_val ok st hx .refl rv fun h' tk k st' => ?_)))
      exact ih (s := { s with heap := h', toks := tk }) st' (ra.mono (fun b o hb e hh => k.same e hb.2 hh.noFrame) fun _ _ x _ => x) (H.mono (fun _ _ Hp h'' tk' k' st'' => Hp h'' tk' (k.trans k') st'') fun _ _ X => X)
/-- a tuple into names -/
theorem unpack_sound {es : List Expr} {xs : List String} {k : Nat} {tp : Pos} {a : Addr} {vs : List Value} {ds : List V} {f : Bool} {X : Msg → Prop} (ok : c.Ok n) (hA : A.handled = none) (hc : CNs c.env.scope es xs) (st : StS (prog, w) b0 c E φ Ω s.heap) (hT : IsTup s.heap a vs.toArray) (ra : RA (prog, w) (fun a => f = true → a ∉ E ∧ a ∉ c.Y Ω) s.heap vs ds)
    (H : G (updAll f xs ds φ) (fun φ' => ∀ h' tk, Kp c.fs (c.Y Ω) s.heap h' → StS (prog, w) b0 c E φ' Ω h' → QU () { s with heap := h', toks := tk }) X) : wpAny (model prog w) A (assign (.Tuple es k tp) c.env (.ref a)) QU Ex s := by
  obtain ⟨h1, h2⟩ := hc.length c.env
  refine assign_Tuple_tuple hA hT (by rw [h1, updAll_len H, List.size_toArray, ra.length]) h2 fun h' he => ?_
  have kp : Kp c.fs [] s.heap h' := .of_keeps fun b o e => he b o (Nat.ne_of_lt (Heap.lt_size e)) e
  exact names_sound (s := { s with heap := h' }) ok hc (st.kp kp) ((updAll_RA H ra).mono (kp.up fun _ _ => by simp) fun _ _ x _ => x) (H.mono (fun _ _ Hp h'' tk k st'' => Hp h'' tk ((kp.weak fun _ z => nomatch z).trans k) st'') fun _ _ X => X)
theorem ex_unpack {es : List Expr} {xs : List String} {k : Nat} {tp p : Pos} {v : Expr} {e : IE} (hE : SEv prog w b0 r n) (ok : c.Ok n) (st : StS (prog, w) b0 c E φ Ω s.heap) (hc : CNs c.env.scope es xs) (hv : CE c.env.scope v e) (hnt : isTupE e = false)
    (H : G (exI r φ (.unpack xs e)) (ExPost (prog, w) b0 c E Ω s Q) (XPostS b0 c Ω s Ex)) : wpAny (model prog w) c.A (exec (.Assign [.Tuple es k tp] v p) c.env) Q Ex s := by
  dsimp only [exI] at H
  refine Assign_Tuple (hE c E φ Ω s _ _ _ _ ok st.st hv (H.bind.mono (fun u _ Hu v' h₁ tk₁ k₁ r₁ => ?_) fun _ _ X => X.now st.st)) hv.swT (hv.stT hnt)
  obtain ⟨a, vs, ds, rfl, h0, hT, hsz, ra, Hu⟩ := Hu.rTup r₁
  exact unpack_sound (s := { s with heap := h₁, toks := tk₁ }) ok ok.handled hc (st.kp k₁) hT ra (Hu.bind.mono (fun φ' _ Hp h' tk k st' => (show ExPost (prog, w) b0 c E Ω s Q (.next, φ') from Hp) .next h' tk Ω trivial ((k₁.weak fun _ z => nomatch z).trans k) .refl st') fun _ _ X => X)

/-! ## objects of our own change -/
theorem StS.mutK {P : Program × World} {x : String} {a : Addr} {sl sl₀ : Slot} {h h' : Heap} (st : StS P b0 c E φ Ω h) (hn : LName c.env.scope x) (hx : φ.lookup x = some sl₀) (hcur : ∀ mv, SlotAt P E (c.Y Ω) Ω h mv x sl₀ → mv = some (.ref a)) (ha : Ω.lookup x = some a)
    (k : Kp c.fs [a] h h') (hal : ∃ o, h'.get? a = some o) (hsl : SlotAt P E (c.Y Ω) Ω h' (some (.ref a)) x sl) (hacc : ∀ ds, sl = .acc ds → a ∉ E) : StS P b0 c E (upd x sl φ) Ω h' := by
  have haY : a ∈ c.Y Ω := omega_Y ha
  have aOwn := st.not_own ha
  have aFs : a ∉ c.fs := fun z => by
    by_cases e : a = c.env.locals
    · exact aOwn (by rw [e]; exact .head _)
    · exact st.apart a z e haY
  have n1 : ∀ {b}, b ≠ a → b ∉ [a] := fun hb z => hb (List.mem_singleton.mp z)
  have up : UpAt (fun b => b ∉ c.Y Ω) h h' := fun b o hb e hh => k.same e (n1 fun z => hb (z ▸ haY)) hh.noFrame
  obtain ⟨m, cm, h1, h2, h3⟩ := st.st.loc
  have slots : ∀ b o, b ≠ a → h.get? b = some o → ∃ sl, h'.get? b = some { o with slots := sl } := fun b o hb e => k.there e (n1 hb)
  refine ⟨⟨fun b o e => ?_, ?_, ?_, ⟨m, cm, ?_, fun y j hk => ?_, fun y sl' hl hy => ?_⟩, fun b hb => ?_, st.st.off⟩, st.nodup, fun y hy => ?_, fun y ds b hl hb => ?_, st.apart⟩
  · have e1 := st.st.stay b o e
    rcases k b o e1 (n1 fun z => by rw [z, st.st.off a (.inr haY)] at e; cases e) with q | ⟨q, _⟩
    · exact q
    · rw [(st.st.ff.mem q).1] at e; cases e
  · exact ff_kp st.st.ff k fun b hb => n1 fun z => aFs (z ▸ hb)
  · exact fc_kp st.st.fc k fun b hb => n1 fun z => aFs (z ▸ hb)
  · obtain ⟨o, es, ep, e, hd, hk, hf⟩ := h1
    obtain ⟨sl, e'⟩ := slots _ o (fun z => aOwn (by rw [← z]; exact .head _)) e
    exact ⟨_, es, ep, e', hd, hk, hf⟩
  · obtain ⟨o, e, hd⟩ := h2 y j hk
    obtain ⟨sl, e'⟩ := slots j o (fun z => aOwn (by rw [← z]; exact .tail _ (List.mem_map.mpr ⟨_, lookup_mem hk, rfl⟩))) e
    exact ⟨_, e', hd⟩
  · rw [upd_lookup] at hl
    by_cases e : y = x
    · subst e
      rw [if_pos rfl] at hl; cases hl
      rw [hcur _ (h3 y _ hx hy)]; exact hsl
    · rw [if_neg e] at hl
      have q := h3 y sl' hl hy
      have ne : ∀ b, Ω.lookup y = some b → b ≠ a := fun b hb z => e (nodup_snd' (List.nodup_append.mp st.nodup).2.1 (str_lookup_mem hb) (z ▸ str_lookup_mem ha))
      cases sl' with
      | val d f =>
        obtain ⟨v, ev, rv⟩ := q
        exact ⟨v, ev, rv.mono (fun b o hb e hh => up b o hb.2 e hh) fun b o hb e => hb⟩
      | acc ds =>
        obtain ⟨b, vs, q1, q2, q4, q5⟩ := q
        exact ⟨b, vs, q1, q2, q4.up fun o e hc => k.same e (n1 (ne b q1)) hc, q5.mono (fun b o hb e hh => up b o hb.2 e hh) fun b o hb e => hb⟩
      | tab kvs =>
        obtain ⟨b, q1, q2, ps, ds, t1, t2, t3, t4, t5⟩ := q
        exact ⟨b, q1, q2, ps, ds, dict_up t1 (fun o e hc => k.same e (n1 (ne b q1)) hc), t2, t3.mono (fun b o hb e hh => up b o hb.2 e hh) (fun b o hb e => hb), t4, t5⟩
      | gone => trivial
  · obtain ⟨o, e⟩ := st.st.alive b hb
    by_cases z : b = a
    · rw [z]; exact hal
    · obtain ⟨sl, e'⟩ := slots b o z e; exact ⟨_, e'⟩
  · rw [upd_lookup] at hy
    by_cases e : y = x
    · rw [if_pos e] at hy; cases hy
    · rw [if_neg e] at hy; exact st.dom y hy
  · rw [upd_lookup] at hl
    by_cases e : y = x
    · subst e; rw [if_pos rfl] at hl; cases hl; rw [ha] at hb; cases hb; exact hacc ds rfl
    · rw [if_neg e] at hl; exact st.accE y ds b hl hb
theorem StS.mut {P : Program × World} {x : String} {a : Addr} {sl sl₀ : Slot} {h h' : Heap} (st : StS P b0 c E φ Ω h) (hn : LName c.env.scope x) (hx : φ.lookup x = some sl₀) (hcur : ∀ mv, SlotAt P E (c.Y Ω) Ω h mv x sl₀ → mv = some (.ref a)) (ha : Ω.lookup x = some a)
    (hs : Heap.SameBut a h h') (hal : ∃ o, h'.get? a = some o) (hsl : SlotAt P E (c.Y Ω) Ω h' (some (.ref a)) x sl) (hacc : ∀ ds, sl = .acc ds → a ∉ E) : StS P b0 c E (upd x sl φ) Ω h' := st.mutK hn hx hcur ha (.of_same hs (.head _)) hal hsl hacc
theorem mut_kp {x : String} {a : Addr} {h h' : Heap} (ha : Ω.lookup x = some a) (hs : Heap.SameBut a h h') : Kp c.fs (c.Y Ω) h h' := .of_same hs (omega_Y ha)
/-- appending to a list of our own -/
theorem append_sound {x : String} {ds : List V} {d : V} {v : Value} {a : Addr} (st : StS (prog, w) b0 c E φ Ω s.heap) (hn : LName c.env.scope x) (hx : φ.lookup x = some (.acc ds)) (ha : Ω.lookup x = some a) (hd : ds.length < lim) (rv : R (prog, w) (fun a => a ∉ E ∧ a ∉ c.Y Ω) s.heap v d) {QV : Value → Shared → Prop}
    (H : ∀ h', Kp c.fs (c.Y Ω) s.heap h' → StS (prog, w) b0 c E (upd x (.acc (ds ++ [d])) φ) Ω h' → QV .none { s with heap := h' }) : wpAny (model prog w) A (call (.builtin "list.append") [.ref a, v]) QV Ex s := by
  obtain ⟨m, cm, h1, h2, h3⟩ := st.st.loc
  obtain ⟨a', vs, q1, q2, q4, q5⟩ := h3 x _ hx hn
  rw [ha] at q1; cases q1
  have hlen := q5.length
  have hl2 : lim + 2 ≤ sizeLine := by rw [sizeLine_eq]; decide
  refine wpAny_list_append_plain (hsz := by rw [List.size_toArray]; omega) q4.1 fun h' hl hs => H h' (mut_kp ha hs) ?_
  obtain ⟨k, e⟩ := id hl
  have up : UpAt (fun b => b ∉ E ∧ b ∉ c.Y Ω) s.heap h' := fun b o hb e _ => hs.extBut b o (fun z => hb.2 (z ▸ omega_Y ha)) e
  refine st.mut hn hx (fun mv q => by obtain ⟨b, vs, q1, q2, _⟩ := q; rw [ha] at q1; cases q1; exact q2) ha hs ⟨_, e⟩ ⟨a, vs ++ [v], ha, rfl, ⟨by simpa using hl, by rw [List.length_append, List.length_singleton]; omega⟩, ?_⟩ fun ds' _ => st.accE x ds a hx ha
  exact (q5.mono up fun _ _ x _ => x).append (.one (rv.mono up fun _ _ x _ => x))
theorem not_interactive (ok : c.Ok n) : interactive c.env = false := by unfold interactive; rw [ok.kind]; rfl
theorem ex_append0 {x : String} {xp ap cp p : Pos} {v : Expr} {e : IE} (hE : SEv prog w b0 r n) (ok : c.Ok n) (st : StS (prog, w) b0 c E φ Ω s.heap) (hn : LName c.env.scope x) (hl : (ap.endLine == cp.line) = true) (hv : CE c.env.scope v e)
    (H : G (appI r φ x e) (ExPost (prog, w) b0 c E Ω s Q) (XPost0 c s Ex)) : wpAny (model prog w) c.A (exec (.Expr (.Call (.Attribute (.Name (nm x) xp) (nm "append") ap) [v] [] cp) p) c.env) Q Ex s := by
  obtain ⟨ds, hx, H⟩ := G.onAcc H
  obtain ⟨m, cm, h1, h2, h3⟩ := st.st.loc
  obtain ⟨a, vs, q1, q2, q4, q5⟩ := h3 x _ hx hn
  refine wpAny_Expr_any (wpAny_Call_method (T := "list") (id := "list.append") rfl (by rw [(CEs.add hv .nil).all]; rfl) hl F.plainAttrs_list F.slot_list_append F.type_list_append ?_) (not_interactive ok)
  refine ld_at ok hn h1 h2 q2 ⟨q4.list.isList.typeIs, fun b e => (by cases e; obtain ⟨k, e'⟩ := q4.1; exact ⟨_, e', rfl⟩), ?_⟩
  refine callWith_method1 ?_ (hv.star _ _) rfl
  refine args_cons ?_ (hv.star _ _)
  refine hE c E φ Ω s _ _ _ _ ok st.st hv (H.bind.mono (fun u _ Hu v' h₁ tk₁ k₁ r₁ => args_nil ?_) fun _ _ X => X.now)
  obtain ⟨rv, Hu⟩ := Hu.bind.fz r₁
  obtain ⟨hlt, Hq⟩ := Hu.need
  exact append_sound (s := { s with heap := h₁, toks := tk₁ }) (st.kp k₁) hn hx q1 hlt rv fun h' k st' => Hq .next h' _ Ω trivial ((k₁.weak fun _ z => nomatch z).trans k) .refl st'
end
end Mine
end

section
set_option Elab.async false
namespace Mine
open PySem PySem.W PySem.Calls PyProof.Rows

/-- the pairs of a dict -/
inductive PR (P : Program × World) (ok : Addr → Prop) (h : Heap) : List (PySem.Str × Value) → List (PySem.Str × V) → Prop
  | nil : PR P ok h [] []
  | cons {k v d ps kvs} : R P ok h v d → PR P ok h ps kvs → PR P ok h ((k, v) :: ps) ((k, d) :: kvs)
section
variable {P : Program × World} {ok ok' : Addr → Prop} {h h' : Heap}
theorem PR.of_zip {ps : List (PySem.Str × Value)} {ds : List V} (x : RA P ok h (ps.map (·.2)) ds) : PR P ok h ps ((ps.map (·.1)).zip ds) := by
  induction ps generalizing ds with
  | nil => cases x; exact .nil
  | cons p ps ih => cases x with | cons r ra => exact .cons r (ih ra)
theorem PR.zip {ps : List (PySem.Str × Value)} {kvs : List (PySem.Str × V)} (p : PR P ok h ps kvs) : ∃ ds, RA P ok h (ps.map (·.2)) ds ∧ kvs = (ps.map (·.1)).zip ds := by
  induction p with
  | nil => exact ⟨[], .nil, rfl⟩
  | cons r _ ih => obtain ⟨ds, ra, e⟩ := ih; exact ⟨_ :: ds, .cons r ra, by rw [e]; rfl⟩
theorem PR.mono {ps kvs} (p : PR P ok h ps kvs) (k : UpAt ok h h') (hk : ∀ b o, ok b → h.get? b = some o → ok' b) : PR P ok' h' ps kvs := by
  induction p with
  | nil => exact .nil
  | cons r _ ih => exact .cons (r.mono k hk) ih
theorem PR.any {ps kvs} (p : PR P ok h ps kvs) (k : PySem.Str) : (ps.any fun kv => decide (kv.1 = k)) = kvs.any fun kv => decide (kv.1 = k) := by
  induction p with
  | nil => rfl
  | cons _ _ ih => rw [List.any_cons, List.any_cons, ih]
theorem PR.append {ps qs kvs lvs} (p : PR P ok h ps kvs) (q : PR P ok h qs lvs) : PR P ok h (ps ++ qs) (kvs ++ lvs) := by
  induction p with
  | nil => exact q
  | cons r _ ih => exact .cons r ih
theorem PR.put {ps kvs} (p : PR P ok h ps kvs) (k : PySem.Str) {v : Value} {d : V} (r : R P ok h v d) : PR P ok h (stored ps k v) (dictPut kvs k d) := by
  unfold stored dictPut
  rw [p.any k]
  split
  · rename_i hany
    clear hany
    induction p with
    | nil => exact .nil
    | cons r0 _ ih =>
      rw [List.map_cons, List.map_cons]
      dsimp only
      split
      · exact .cons r ih
      · exact .cons r0 ih
  · exact p.append (.cons r .nil)
theorem PR.del {ps kvs} (p : PR P ok h ps kvs) (k : PySem.Str) : PR P ok h (without ps k) (dictDel k kvs) := by
  unfold without dictDel
  induction p with
  | nil => exact .nil
  | cons r _ ih =>
    rw [List.filter_cons, List.filter_cons]
    dsimp only
    split
    · exact .cons r ih
    · exact ih
theorem PR.look {ps kvs} (p : PR P ok h ps kvs) (k : PySem.Str) {d : V} (hd : kvs.lookup k = some d) : ∃ v, valueAt ps k = some v ∧ R P ok h v d := by
  obtain ⟨ds, ra, rfl⟩ := p.zip
  exact (valueAt_lookup k ra).2 d hd
theorem PR.length {ps kvs} (p : PR P ok h ps kvs) : ps.length = kvs.length := by
  induction p with
  | nil => rfl
  | cons _ _ ih => rw [List.length_cons, List.length_cons, ih]
theorem stored_sz {ps : List (PySem.Str × Value)} {k : PySem.Str} {v : Value} (hz : Sz ps) (hl : ps.length < sizeLine) (hk : k.length ≤ sizeLine) : Sz (stored ps k v) := by
  refine ⟨Nat.le_trans (stored_length_le ps k v) hl, fun p hp => ?_⟩
  unfold stored at hp
  split at hp
  · obtain ⟨q, hq, rfl⟩ := List.mem_map.mp hp
    split
    · exact hz.2 q hq
    · exact hz.2 q hq
  · rcases List.mem_append.mp hp with hp | hp
    · exact hz.2 p hp
    · rw [List.mem_singleton.mp hp]; exact hk
theorem without_sz {ps : List (PySem.Str × Value)} {k : PySem.Str} (hz : Sz ps) : Sz (without ps k) := ⟨Nat.le_trans (List.length_filter_le _ _) hz.1, fun p hp => hz.2 p (List.mem_filter.mp hp).1⟩
end
section
variable {prog : Program} {w : World} {b0 : Heap} {mg mb : PySem.Str → Option Value} {consts : String → Option V} {r : Rec} {n : Nat} {c : Cx} {E : List Addr} {φ : Frm} {Ω Ω' : List (String × Addr)} {s : Shared} {Q : Flow → Shared → Prop} {QU : Unit → Shared → Prop} {Ex : Value → Shared → Prop} {A : Around}

theorem StS.tab {P : Program × World} {h : Heap} {t : String} {kvs : List (PySem.Str × V)} (st : StS P b0 c E φ Ω h) (hn : LName c.env.scope t) (hx : φ.lookup t = some (.tab kvs)) : ∃ a ps, Ω.lookup t = some a ∧ h.DictOf (strKind P.1 P.2) a ps ∧ (a == sysModules) = false ∧ PR P (fun a => a ∉ E ∧ a ∉ c.Y Ω) h ps kvs ∧ Sz ps := by
  obtain ⟨m, cm, h1, h2, h3⟩ := st.st.loc
  obtain ⟨a, q1, q2, ps, ds, t1, t2, t3, t4, rfl⟩ := h3 t _ hx hn
  exact ⟨a, ps, q1, t1, t2, .of_zip t3, t4⟩
/-- the dict has changed -/
theorem StS.retab {P : Program × World} {h h' : Heap} {t : String} {kvs kvs' : List (PySem.Str × V)} {a : Addr} {ps : List (PySem.Str × Value)} (st : StS P b0 c E φ Ω h) (hn : LName c.env.scope t) (hx : φ.lookup t = some (.tab kvs)) (ha : Ω.lookup t = some a) (hs : Heap.SameBut a h h')
    (hd : h'.DictOf (strKind P.1 P.2) a ps) (hlo : (a == sysModules) = false) (hp : PR P (fun a => a ∉ E ∧ a ∉ c.Y Ω) h ps kvs') (hz : Sz ps) : StS P b0 c E (upd t (.tab kvs') φ) Ω h' := by
  have up : UpAt (fun b => b ∉ E ∧ b ∉ c.Y Ω) h h' := fun b o hb e _ => hs.extBut b o (fun z => hb.2 (z ▸ omega_Y ha)) e
  obtain ⟨ds, ra, e⟩ := (hp.mono (ok' := fun b => b ∉ E ∧ b ∉ c.Y Ω) up fun _ _ x _ => x).zip
  refine st.mut hn hx (fun mv q => by obtain ⟨b, q1, q2, _⟩ := q; rw [ha] at q1; cases q1; exact q2) ha hs (let ⟨o, _, _, e, _⟩ := hd; ⟨o, e⟩) ⟨a, ha, rfl, ps, ds, hd, hlo, ra, hz, e⟩ fun ds e => nomatch e
theorem dictPut_len {kvs : List (PySem.Str × V)} {k : PySem.Str} {v : V} : (dictPut kvs k v).length ≤ kvs.length + 1 := by
  unfold dictPut
  split
  · rw [List.length_map]; omega
  · rw [List.length_append, List.length_singleton]; omega
theorem ex_setKey {t : String} {tp sp p : Pos} {k v : Expr} {ki e : IE} (hE : SEv prog w b0 r n) (ok : c.Ok n) (st : StS (prog, w) b0 c E φ Ω s.heap) (hn : LName c.env.scope t) (hk : CE c.env.scope k ki) (hv : CE c.env.scope v e)
    (H : G (exI r φ (.setKey t ki e)) (ExPost (prog, w) b0 c E Ω s Q) (XPostS b0 c Ω s Ex)) : wpAny (model prog w) c.A (exec (.Assign [.Subscript (.Name (nm t) tp) k sp] v p) c.env) Q Ex s := by
  dsimp only [exI] at H
  obtain ⟨kvs, hx, H⟩ := G.onTab H
  refine wpAny_Assign_Subscript (hE c E φ Ω s _ _ _ _ ok st.st hv (H.bind.mono (fun u _ Hu v' h₁ tk₁ k₁ r₁ => ?_) fun _ _ X => X.now st.st)) hv.swS
  have st₁ := st.kp k₁
  have k₁w : Kp c.fs (c.Y Ω) s.heap h₁ := k₁.weak fun _ z => nomatch z
  refine tab_at (s := { s with heap := h₁, toks := tk₁ }) ok st₁.st hn hx fun a ha _ => ?_
  refine hE c E φ Ω { s with heap := h₁, toks := tk₁ } _ _ _ _ ok st₁.st hk (Hu.bind.mono (fun j _ Hj v'' h₂ tk₂ k₂ r₂ => ?_) fun _ _ X => (X.step k₁w .refl).now st₁.st)
  have st₂ := st₁.kp k₂
  obtain ⟨y, ty, rfl, hy, Hj⟩ := Hj.rStr r₂
  obtain ⟨rv, Hj⟩ := Hj.bind.fz r₁
  obtain ⟨hlt, Hq⟩ := Hj.need
  obtain ⟨a', ps, ha', hD, hlo, hp, hz⟩ := st₂.tab hn hx
  rw [ha] at ha'; cases ha'
  have hps : ps.length < sizeLine := by rw [hp.length, sizeLine_eq]; omega
  refine wpAny_setItem_pairs (hsz := hz.1) (strIs _ _) hD fun h' hD' hs => ?_
  exact Hq .next h' _ Ω trivial ((k₁w.trans (k₂.weak fun _ z => nomatch z)).trans (mut_kp ha hs)) .refl (st₂.retab hn hx ha hs hD' hlo (hp.put y (rv.mono (k₂.up fun _ _ => by simp) fun _ _ x _ => x)) (stored_sz hz hps hy))
/-- `t.pop(k)` -/
theorem pop_sound {t : String} {tp ap cp : Pos} {k : Expr} {ki : IE} {kvs : List (PySem.Str × V)} {QV : Value → Shared → Prop} {RR : PySem.Str → V → Res (Fl × Frm)} (hE : SEv prog w b0 r n) (ok : c.Ok n) (st : StS (prog, w) b0 c E φ Ω s.heap) (hn : LName c.env.scope t) (hl : (ap.endLine == cp.line) = true) (hk : CE c.env.scope k ki) (hx : φ.lookup t = some (.tab kvs)) {post : Fl × Frm → Prop}
    (H : G ((r.ev φ ki).bind fun j => onStr j.1 fun k => onO (kvs.lookup k) fun d => if kvs.length ≤ 1000 then RR k d else .bad) post (XPostS b0 c Ω s Ex))
    (hq : ∀ y d v h' tk, Kp c.fs (c.Y Ω) s.heap h' → StS (prog, w) b0 c E (upd t (.tab (dictDel y kvs)) φ) Ω h' → R (prog, w) (fun a => a ∉ E ∧ a ∉ c.Y Ω) h' v d → G (RR y d) post (XPostS b0 c Ω s Ex) → QV v { s with heap := h', toks := tk }) :
    wpAny (model prog w) c.A (eval (.Call (.Attribute (.Name (nm t) tp) (nm "pop") ap) [k] [] cp) c.env) QV Ex s := by
  refine wpAny_Call_method (T := "dict") (id := "dict.pop") rfl (by rw [(CEs.add hk .nil).all]; rfl) hl F.plainAttrs_dict F.slot_dict_pop F.type_dict_pop ?_
  refine tab_at ok st.st hn hx fun a ha T => ?_
  obtain ⟨ps0, ds0, q1, q2, q3, q4, q5⟩ := T
  refine ⟨q1.typeIs, q1.mapOf.noDict, callWith_method1 ?_ (hk.star _ _) rfl⟩
  refine args_cons ?_ (hk.star _ _)
  refine hE c E φ Ω s _ _ _ _ ok st.st hk (H.bind.mono (fun j _ Hj v'' h₂ tk₂ k₂ r₂ => args_nil ?_) fun _ _ X => X.now st.st)
  have st₂ := st.kp k₂
  obtain ⟨y, ty, rfl, hy, Hj⟩ := Hj.rStr r₂
  obtain ⟨d, hlk, Hj⟩ := Hj.onO
  obtain ⟨hlt, Hq⟩ := Hj.need
  obtain ⟨a', ps, ha', hD, hlo, hp, hz⟩ := st₂.tab hn hx
  rw [ha] at ha'; cases ha'
  obtain ⟨v, hv, rv⟩ := hp.look y hlk
  refine call_meetsIn PySem.F.slot_dict_pop hD.typeIs PySem.F.entry_dict_pop (F.args_dict_pop_2 _ _) (meets_dict_pop_there _ a (strIs y ty) [] (.inl rfl) rfl) ⟨ps, v, hD, hz.1, hv, fun h' hD' hs => ?_⟩
  have up : UpAt (fun b => b ∉ E ∧ b ∉ c.Y Ω) h₂ h' := fun b o hb e _ => hs.extBut b o (fun z => hb.2 (z ▸ omega_Y ha)) e
  exact hq y d v h' _ ((k₂.weak fun _ z => nomatch z).trans (mut_kp ha hs)) (st₂.retab hn hx ha hs hD' hlo (hp.del y) (without_sz hz)) (rv.mono up fun _ _ x _ => x) Hq
theorem ex_popTo {y t : String} {yp tp ap cp p : Pos} {k : Expr} {ki : IE} (hE : SEv prog w b0 r n) (ok : c.Ok n) (st : StS (prog, w) b0 c E φ Ω s.heap) (hy : LName c.env.scope y) (hn : LName c.env.scope t) (hl : (ap.endLine == cp.line) = true) (hk : CE c.env.scope k ki)
    (H : G (exI r φ (.popTo y t ki)) (ExPost (prog, w) b0 c E Ω s Q) (XPostS b0 c Ω s Ex)) : wpAny (model prog w) c.A (exec (.Assign [.Name (nm y) yp] (.Call (.Attribute (.Name (nm t) tp) (nm "pop") ap) [k] [] cp) p) c.env) Q Ex s := by
  dsimp only [exI] at H
  obtain ⟨kvs, hx, H⟩ := G.onTab H
  refine wpAny_Assign_Name (pop_sound (RR := fun k d => .ok (.next, upd y (.val d true) (upd t (.tab (dictDel k kvs)) φ))) hE ok st hn hl hk hx H fun z d v h' tk kp st' rv HR => ?_)
  exact put_val (s := { s with heap := h', toks := tk }) ok st' hy .refl rv fun h'' tk' k' st'' => (show ExPost (prog, w) b0 c E Ω s Q _ from HR) .next h'' tk' Ω trivial (kp.trans k') .refl st''
theorem ex_popKey {t : String} {tp ap cp p : Pos} {k : Expr} {ki : IE} (hE : SEv prog w b0 r n) (ok : c.Ok n) (st : StS (prog, w) b0 c E φ Ω s.heap) (hn : LName c.env.scope t) (hl : (ap.endLine == cp.line) = true) (hk : CE c.env.scope k ki)
    (H : G (exI r φ (.popKey t ki)) (ExPost (prog, w) b0 c E Ω s Q) (XPostS b0 c Ω s Ex)) : wpAny (model prog w) c.A (exec (.Expr (.Call (.Attribute (.Name (nm t) tp) (nm "pop") ap) [k] [] cp) p) c.env) Q Ex s := by
  dsimp only [exI] at H
  obtain ⟨kvs, hx, H⟩ := G.onTab H
  refine wpAny_Expr_any (pop_sound (RR := fun k _ => .ok (.next, upd t (.tab (dictDel k kvs)) φ)) hE ok st hn hl hk hx H fun z d v h' tk kp st' rv HR => ?_) (not_interactive ok)
  exact (show ExPost (prog, w) b0 c E Ω s Q _ from HR) .next h' tk Ω trivial kp .refl st'
theorem ex_delKey {t : String} {tp sp p : Pos} {k : Expr} {ki : IE} (hE : SEv prog w b0 r n) (ok : c.Ok n) (st : StS (prog, w) b0 c E φ Ω s.heap) (hn : LName c.env.scope t) (hk : CE c.env.scope k ki)
    (H : G (exI r φ (.delKey t ki)) (ExPost (prog, w) b0 c E Ω s Q) (XPostS b0 c Ω s Ex)) : wpAny (model prog w) c.A (exec (.Delete [.Subscript (.Name (nm t) tp) k sp] p) c.env) Q Ex s := by
  dsimp only [exI] at H
  obtain ⟨kvs, hx, H⟩ := G.onTab H
  refine wpAny_Delete (wpAny_deleteEach_cons (wpAny_delete_Subscript ?_))
  refine tab_at ok st.st hn hx fun a ha _ => ?_
  refine hE c E φ Ω s _ _ _ _ ok st.st hk (H.bind.mono (fun j _ Hj v'' h₂ tk₂ k₂ r₂ => ?_) fun _ _ X => X.now st.st)
  have st₂ := st.kp k₂
  obtain ⟨y, ty, rfl, hy, Hj⟩ := Hj.rStr r₂
  obtain ⟨d, hlk, Hj⟩ := Hj.onO
  obtain ⟨hlt, Hq⟩ := Hj.need
  obtain ⟨a', ps, ha', hD, hlo, hp, hz⟩ := st₂.tab hn hx
  rw [ha] at ha'; cases ha'
  obtain ⟨v, hv, rv⟩ := hp.look y hlk
  have hvs : (valueAt ps y).isSome = true := by rw [hv]; rfl
  unfold delItem
  try with_reducible refine wpAny_holding ?_
  refine wpAny_bind (wpAny_sequenceKey hD.typeIs (by decide) ?_)
  refine wpAny_bind (wpAny_callSpecial?_slot (name := PySem.Str.ofString "__delitem__") hD.typeIs PySem.F.slot_dict_delitem (call_meetsIn PySem.F.slot_dict_delitem hD.typeIs PySem.F.entry_dict_delitem (PySem.F.args_dict_delitem_2 _ _) (meets_dict_delitem_pairs _ a (strIs y ty)) ⟨ps, hD, hz.1, hvs, fun h' hD' hs => ?_⟩))
  exact wpAny_pure (wpAny_deleteEach_nil (Hq .next h' _ Ω trivial ((k₂.weak fun _ z => nomatch z).trans (mut_kp ha hs)) .refl (st₂.retab hn hx ha hs hD' hlo (hp.del y) (without_sz hz))))
end
end Mine
end

section
set_option Elab.async false
set_option maxRecDepth 100000
namespace Mine
open PySem PySem.W PySem.Calls PyProof.Rows

theorem dl_entry : entryFor table "dict.update.loop" = some Builtin.«dict.update.loop» := entryFor_of_tree (by kernel_rfl)
theorem dl_plain : plainId "dict.update.loop" = true := by decide +kernel
theorem dl_miss : typeLookup (.type "list") "keys" = pure none := am_miss_of_fast (by decide +kernel)
section
variable {prog : Program} {w : World} {A : Around} {E : Value → Shared → Prop} {s : Shared}
/-- a list has no keys -/
theorem keys_miss {a : Addr} {xs : Array Value} {k : Nat} {Q : Option Value → Shared → Prop} (hx : s.heap.get? a = some { cls := .type "list", data := .seq xs k }) (hA : A.handled = none)
    (h : ∀ h' tk, (∀ b o, s.heap.get? b = some o → h'.get? b = some o) → Q none { s with heap := h', toks := tk }) : wpAny (model prog w) A (getAttr? (.ref a) "keys") Q E s := by
  obtain ⟨hp, g, d, tk, os⟩ := s
  have hT : ∀ tk', (⟨hp, g, d, tk', os⟩ : Shared).TypeIs (.ref a) "list" := fun _ => ⟨_, hx, rfl⟩
  have f1 := sub_AttributeError
  have f3 := F.slot_list_getattribute.lookup
  have f4 := F.slot_list_getattribute.bind (.ref a)
  have f5 := am_list_getattr_none
  unfold getAttr? getAttrBy? getAttrBy
  repeat (any_goals (first | assumption | exact hT _ | ((with_reducible show wpAny _ _ (call (Value.builtin "list.__getattribute__") _ _) _ _ _); refine call_meets F.slot_list_getattribute (hT _) am_entry_list_getattribute (F.args_list_getattribute_2 _ _) (meets_getattribute_miss_list a xs k #[] "keys" _ dl_miss (by decide +kernel) (by size_fits)) ⟨hx, hA, fun h' tk' e hx' => ?_⟩) | wp_step))
  obtain ⟨t', u', he⟩ := hx'.there
  show wpAny _ _ (getattributeRaised _ _ _ _ _ _ _) _ _ _
  unfold getattributeRaised
  repeat (any_goals (first | assumption | wp_step))
  exact h _ _ hx'.keeps
end
end Mine
end

section
set_option Elab.async false
set_option maxRecDepth 100000
namespace Mine
open PySem PySem.W PySem.Calls PyProof.Rows

theorem pairOf_inv {d : V} {p : PySem.Str × V} (h : pairOf d = some p) : d = .tuple [.str p.1, p.2] ∧ p.2.atom = true := by
  unfold pairOf at h
  split at h
  · split at h
    · split at h
      · split at h
        · cases h; exact ⟨rfl, by assumption⟩
        · cases h
      · cases h
    · cases h
  · cases h
section
variable {prog : Program} {w : World} {A : Around} {E : Value → Shared → Prop} {s : Shared}
/-- dict.update.loop over a list of pairs -/
theorem upd_loop {h₀ : Heap} {a I d : Addr} {ok : Addr → Prop} {R' : Result → Shared → Prop} (hA : A.handled = none) (hI : h₀.get? I = none) (hd : h₀.get? d = none) (hId : I ≠ d) {vs : List Value} {ds : List V} {na : Nat} (hla : h₀.get? a = some { cls := .type "list", data := .seq vs.toArray na }) (ra : RA (prog, w) ok h₀ vs ds) {fin : List (PySem.Str × V)} (k : Nat) :
    ∀ (i : Nat) (s : Shared) (kvs : List (PySem.Str × Value)) (dd ps : List (PySem.Str × V)), vs.length - i = k → i ≤ vs.length → (∀ b o, h₀.get? b = some o → s.heap.get? b = some o) → s.heap.IsListIter I a i → s.heap.DictOf (strKind prog w) d kvs →
      PR (prog, w) (fun _ => False) h₀ kvs dd → Sz kvs → kvs.length + ps.length ≤ 2000 → pairsOf (ds.drop i) = some ps → fin = ps.foldl (fun d p => dictPut d p.1 p.2) dd →
      (∀ h' tk kvs', (∀ b o, h₀.get? b = some o → h'.get? b = some o) → h'.DictOf (strKind prog w) d kvs' → PR (prog, w) (fun _ => False) h₀ kvs' fin → Sz kvs' → R' (.ok (.ret .none)) { s with heap := h', toks := tk }) →
      codeAny (model prog w) A (.builtin "dict.update.loop" ⟨[.ref d, .ref I, rawInt i, .none], []⟩) R' s := by
  have hne : a ≠ I := by rintro rfl; rw [hI] at hla; cases hla
  have W := Walks.list (prog := prog) (w := w) (A := A.in1) hA I a hne vs.toArray
  have hlen := ra.length
  induction k with
  | zero =>
    intro i s kvs dd ps hk hi keep hit hD hP hz hl hps hfin hR
    have hin : i = vs.length := by omega
    subst hin
    have hLa : s.heap.IsList a vs.toArray := ⟨_, keep _ _ hla, rfl, na, rfl⟩
    refine codeAny_builtin dl_entry ?_
    rw [Around.under_plainId dl_plain _]
    show wpAny _ A.in1 (pyNext (.ref I) >>= _) _ _ s
    refine wpAny_bind (W.done s _ _ ⟨by simpa using hit, hLa⟩ fun h' tk hk' => ?_)
    rw [hlen, List.drop_length] at hps
    cases hps
    subst hfin
    show wpAny _ _ (Builtin.Dict.addKeywords d [] >>= _) _ _ _
    refine wpAny_bind (wpAny_pure (wpAny_pure ?_))
    refine hR h' tk kvs (fun b o e => hk' b o (fun z => ?_) (keep b o e)) ?_ hP hz
    · rw [List.mem_singleton] at z; rw [z, hI] at e; cases e
    · obtain ⟨o, es, ep, ho, r⟩ := hD
      exact ⟨o, es, ep, hk' d o (fun z => hId (List.mem_singleton.mp z).symm) ho, r⟩
  | succ k ih =>
    intro i s kvs dd ps hk hi keep hit hD hP hz hl hps hfin hR
    have hlt : i < vs.length := by omega
    have hLa : s.heap.IsList a vs.toArray := ⟨_, keep _ _ hla, rfl, na, rfl⟩
    refine codeAny_builtin dl_entry ?_
    rw [Around.under_plainId dl_plain _]
    show wpAny _ A.in1 (pyNext (.ref I) >>= _) _ _ s
    refine wpAny_bind (W.item i s _ _ (by simpa using hlt) ⟨hit, hLa⟩ fun v h' tk hv hst' hk' => ?_)
    have hdd : ds.drop i = ds[i]'(by omega) :: ds.drop (i + 1) := List.drop_eq_getElem_cons (by omega)
    rw [hdd] at hps
    obtain ⟨p, hp, hps⟩ := Option.bind_eq_some_iff.mp (show (pairOf _).bind _ = some ps from hps)
    obtain ⟨qs, hqs, rfl⟩ := Option.map_eq_some_iff.mp hps
    obtain ⟨e1, hat⟩ := pairOf_inv hp
    obtain ⟨v', hv', rv⟩ := ra.get (k := i) (List.getElem?_eq_getElem (by omega))
    have ev : v' = v := by
      have hv2 : vs[i]? = some v := by simpa using hv
      rw [hv'] at hv2; exact Option.some.inj hv2
    subst ev
    rw [e1] at rv
    obtain ⟨b, us, rfl, hob, hT, hus, rus⟩ := rv.inv_tuple
    cases rus with
    | cons r1 rus =>
    cases rus with
    | cons r2 rus =>
    cases rus
    obtain ⟨t, rfl, hkl⟩ := r1.inv_str
    rename_i vv
    have keep' : ∀ b o, h₀.get? b = some o → h'.get? b = some o := fun b o e => hk' b o (fun z => by rw [List.mem_singleton] at z; rw [z, hI] at e; cases e) (keep b o e)
    obtain ⟨ot, het, hct, nt, hdt⟩ := hT
    have het' := keep' _ _ het
    have hTI : ({ s with heap := h', toks := tk } : Shared).TypeIs (.ref b) "tuple" := ⟨ot, het', hct⟩
    have hD' : h'.DictOf (strKind prog w) d kvs := by
      obtain ⟨o, es, ep, ho, r⟩ := hD
      exact ⟨o, es, ep, hk' d o (fun z => hId (List.mem_singleton.mp z).symm) ho, r⟩
    refine wpAny_bind (wpAny_holding (wpAny_bind (wpAny_tryCatch ?_)))
    unfold Builtin.Dict.pairItems
    refine wpAny_bind (wpAny_typeOf hTI ?_)
    rw [if_pos (by decide)]
    refine wpAny_bind (wpAny_seqItems het' hdt (wpAny_pure ?_))
    show wpAny _ _ (holding [.str p.1 t, vv] (dictSet d (.str p.1 t) vv)) _ _ _
    refine wpAny_holding (wpAny_dictSet_pairs (hsz := hz.1) (strIs _ _) hD' fun h₂ hD₂ hs₂ => ?_)
    have hps : kvs.length < sizeLine := by rw [sizeLine_eq]; omega
    refine wpAny_pure ⟨plainId_quiet dl_plain _, ?_⟩
    refine ih (i + 1) { s with heap := h₂, toks := tk + 1 } (stored kvs p.1 vv) (dictPut dd p.1 p.2) qs (by omega) hlt (fun b o e => hs₂.extBut b o (fun z => by rw [z, hd] at e; cases e) (keep' b o e)) (hst'.1.extBut hs₂.extBut hId) hD₂ (hP.put p.1 (r2.atom_any hat)) (stored_sz hz hps hkl) ?_ hqs hfin fun h₃ tk₃ kvs' k₃ d₃ p₃ z₃ => hR h₃ tk₃ kvs' k₃ d₃ p₃ z₃
    have := stored_length_le kvs p.1 vv
    simp only [List.length_cons] at hl
    omega
end
end Mine
end

section
set_option Elab.async false
set_option maxRecDepth 100000
namespace Mine
open PySem PySem.W PySem.Calls PyProof.Rows

section
variable {prog : Program} {w : World} {b0 : Heap} {mg mb : PySem.Str → Option Value} {consts : String → Option V} {r : Rec} {n : Nat} {c : Cx} {E : List Addr} {φ : Frm} {Ω : List (String × Addr)} {s : Shared} {Q : Value → Shared → Prop} {Ex : Value → Shared → Prop} {A : Around}
/-- dict(list) -/
theorem call_dict_list {a : Addr} {vs : List Value} {ds : List V} {ps : List (PySem.Str × V)} {ok : Addr → Prop} {na : Nat} (hA : A.handled = none) (hla : s.heap.get? a = some { cls := .type "list", data := .seq vs.toArray na }) (ra : RA (prog, w) ok s.heap vs ds) (hps : pairsOf ds = some ps) (hl : ps.length ≤ 1000)
    (H : ∀ d h' tk kvs, (∀ b o, s.heap.get? b = some o → h'.get? b = some o) → s.heap.objs.size ≤ d → h'.DictOf (strKind prog w) d kvs → PR (prog, w) (fun _ => False) s.heap kvs (dictFill ps) → Sz kvs → Q (.ref d) { s with heap := h', toks := tk }) :
    wpAny (model prog w) A (call (.type "dict") [.ref a]) Q Ex s := by
  refine callType_codes (Q₁ := fun obj s₁ => obj = .ref s.heap.objs.size ∧ s₁ = { s with heap := s.heap.push { cls := .type "dict", data := .dict #[] } }) F.kt_called_dict (F.kt_typeCall_dict_1 _) F.entry_dict_init (kt_code_dict_new _ ⟨rfl, rfl⟩) ?_
  rintro obj s₁ ⟨rfl, rfl⟩
  have hnew : (s.heap.push { cls := .type "dict", data := .dict #[] }).DictOf (strKind prog w) s.heap.objs.size [] := Heap.DictOf.new s.heap
  have k₀ : ∀ b o, s.heap.get? b = some o → (s.heap.push { cls := .type "dict", data := .dict #[] }).get? b = some o := fun b o e => Heap.get?_push_of_some _ e
  have hd₀ : s.heap.get? s.heap.objs.size = none := gone_of_le (Nat.le_refl _)
  have hsz₀ : s.heap.objs.size < (s.heap.push { cls := .type "dict", data := .dict #[] }).objs.size := by rw [Heap.size_push]; exact Nat.lt_succ_self _
  generalize s.heap.push { cls := .type "dict", data := .dict #[] } = h₁ at hnew k₀ hsz₀ ⊢
  generalize hd : s.heap.objs.size = d at hnew hd₀ hsz₀ ⊢
  refine ⟨hnew.typeIs, F.args_dict_init_2 _ _, ?_⟩
  unfold Builtin.«dict.__init__»
  refine wpAny_bind ?_
  unfold Builtin.Dict.selfAndRest
  refine wpAny_bind (wpAny_notOrdered_dict hnew.typeIs ?_)
  show wpAny _ _ (pure (d, [Value.ref a])) _ _ _
  refine wpAny_pure ?_
  show wpAny _ _ (Builtin.Dict.updateFrom "dict.__init__" d (.ref a) [] .none) _ _ _
  unfold Builtin.Dict.updateFrom
  refine wpAny_bind (wpAny_typeOf (T := "list") ⟨_, k₀ _ _ hla, rfl⟩ ?_)
  rw [if_pos (by decide)]
  refine wpAny_bind (m := getAttr? (.ref a) "keys") (keys_miss (A := A.in1.in1) (s := { s with heap := h₁ }) (k₀ _ _ hla) hA fun h₂ tk₂ k₂ => ?_)
  rw [if_pos (show (none : Option Value).isNone = true from rfl)]
  refine wpAny_bind (wpAny_rule (wpAny_bind (wpAny_pyIter_list (items := vs.toArray) ⟨_, k₂ _ _ (k₀ _ _ hla), rfl, na, rfl⟩ ?_)))
  refine wpAny_pure ⟨plainId_quiet dl_plain _, ?_⟩
  have hk : ∀ b o, s.heap.get? b = some o → (h₂.push { cls := .type "list_iterator", data := .fields #[.ref a, .int 0 0] }).get? b = some o := fun b o e => Heap.get?_push_of_some _ (k₂ _ _ (k₀ _ _ e))
  have hd₂ : d < h₂.objs.size := by
    obtain ⟨o, es, ep, ho, _⟩ := hnew
    exact Heap.lt_size (k₂ _ _ ho)
  have hI : s.heap.get? h₂.objs.size = none := gone_of_le (by omega)
  refine upd_loop (A := A.in1) (h₀ := s.heap) (I := h₂.objs.size) (d := d) (ok := ok) hA hI hd₀ (Nat.ne_of_gt hd₂) hla ra (fin := dictFill ps) vs.length 0 { s with heap := h₂.push { cls := .type "list_iterator", data := .fields #[.ref a, .int 0 0] }, toks := tk₂ } [] [] ps rfl (Nat.zero_le _) hk ⟨_, Heap.get?_push_size _ rfl, rfl, rfl⟩ ?_ .nil ⟨Nat.zero_le _, fun _ h => nomatch h⟩ (by simp; omega) (by simpa using hps) rfl ?_
  · obtain ⟨o, es, ep, ho, q⟩ := hnew
    exact ⟨o, es, ep, Heap.get?_push_of_some _ (k₂ _ _ ho), q⟩
  · intro h' tk kvs' k' d' p' z'
    exact ⟨rfl, H d h' tk kvs' k' (Nat.le_of_eq hd) d' p' z'⟩
theorem ev_dictOf {x : String} {np xp p : Pos} (S : Stat (prog, w) b0 mg mb consts) (ok : c.Ok n) (st : St (prog, w) b0 c E φ Ω s.heap) (hg : GName c.env.scope "dict") (hn : LName c.env.scope x)
    (H : G (evI consts r φ (.dictOf x)) (EvPost (prog, w) c E Ω s Q) (XPost c s Ex)) : wpAny (model prog w) c.A (eval (.Call (.Name (nm "dict") np) [.Name (nm x) xp] [] p) c.env) Q Ex s := by
  dsimp only [evI] at H
  obtain ⟨ds, hx, H⟩ := G.onAcc H
  obtain ⟨ps, hps, H⟩ := G.onO H
  obtain ⟨hl, Hq⟩ := G.need H
  obtain ⟨m, cm, h1, h2, h3⟩ := st.loc
  obtain ⟨a, vs, q1, q2, ⟨⟨na, q4⟩, _⟩, q5⟩ := h3 x _ hx hn
  refine Call_ (ld_boot S ok st hg (S.free _ (by decide)) boot_dict (by decide) (callWith_type1 ?_ rfl rfl))
  refine args_cons (ld_at ok hn h1 h2 q2 (args_nil ?_)) rfl
  refine call_dict_list ok.handled q4 q5 hps hl fun d h' tk kvs k' hd hD hP hz => ?_
  obtain ⟨es, re, e⟩ := hP.zip
  have hlow : (d == sysModules) = false := beq_eq_false_iff_ne.mpr (Nat.ne_of_gt (Nat.lt_of_lt_of_le (modules_low (S.nolimit.keeps st.stay)) hd))
  have hfr := st.fresh hd
  have rd : R (prog, w) (fun a => true = true → a ∉ E ∧ a ∉ c.Y Ω) h' (.ref d) (.dict (dictFill ps)) := by
    rw [e]
    exact .dict (fun _ => hfr) hD hlow (re.mono (fun b o hb _ _ => hb.elim) fun b o hb _ => hb.elim) hz
  exact (show EvPost (prog, w) c E Ω s Q (.dict (dictFill ps), true) from Hq) _ _ _ (.of_keeps k') rd
end
end Mine
end

section
set_option Elab.async false
namespace Mine
open PySem PySem.W PySem.Calls PyProof.Rows

section
variable {prog : Program} {w : World} {b0 : Heap} {mg mb : PySem.Str → Option Value} {consts : String → Option V} {r : Rec} {n : Nat} {c : Cx} {E : List Addr} {φ : Frm} {Ω Ω' : List (String × Addr)} {s : Shared} {Q : Flow → Shared → Prop} {QU : Unit → Shared → Prop} {Ex : Value → Shared → Prop} {A : Around}

noncomputable def LRel (c : Cx) (wr : List Addr) (Ω : List (String × Addr)) (h₁ : Heap) (Ω' : List (String × Addr)) (h' : Heap) : Prop := Kp c.fs (wr ++ c.Y Ω) h₁ h' ∧ (∀ a ∈ c.Y Ω', a ∈ c.Y Ω ∨ h₁.get? a = none) ∧ ∀ x a, Ω.lookup x = some a → Ω'.lookup x = some a
inductive LInv (prog : Program) (w : World) (b0 : Heap) (c : Cx) (E wr : List Addr) (Ω : List (String × Addr)) (h₁ : Heap) (r : Rec) (bnd : V × Bool → Frm → Res Frm) (is : List IS) (us : List (V × Bool)) (Sv : Nat → Heap → Prop) (s : Shared) (Q : Flow → Shared → Prop) (Ex : Value → Shared → Prop) (k : Nat) (s' : Shared) : Prop
  | mk (h' : Heap) (tk : Nat) (φ' : Frm) (Ω' : List (String × Addr)) (i : Nat) : s' = { s with heap := h', toks := tk } → i ≤ us.length → k = us.length + 1 - i → Sv i h' → StS (prog, w) b0 c E φ' Ω' h' → LRel c wr Ω h₁ Ω' h' → G (loopG r bnd is φ' (us.drop i)) (ExPost (prog, w) b0 c E Ω s Q) (XPostS b0 c Ω s Ex) →
      LInv prog w b0 c E wr Ω h₁ r bnd is us Sv s Q Ex k s'
theorem loop_sound {target : Expr} {it : Addr} {body : List Stmt} {is : List IS} {bnd : V × Bool → Frm → Res Frm} {us : List (V × Bool)} {fp wr : List Addr} {Sv : Nat → Heap → Prop} {h₁ : Heap} {tk₁ : Nat} (hX : SEx prog w b0 r n) (ok : c.Ok n) (hf : c.Fn) (hp : Passes prog w c Ex)
    (st : StS (prog, w) b0 c E φ Ω s.heap) (k₁ : Kp c.fs [] s.heap h₁) (hst : Sv 0 h₁) (hfp : ∀ b ∈ fp, b ∉ c.fs ∧ b ∉ c.Y Ω ∧ ∃ o, h₁.get? b = some o) (hwr : ∀ b ∈ wr, s.heap.get? b = none ∧ b ∈ fp) (hal : ∀ i h, Sv i h → ∀ b ∈ wr, ∃ o, h.get? b = some o)
    (hframe : ∀ i h h', Sv i h → (∀ b ∈ fp, ∀ o, h.get? b = some o → h'.get? b = some o) → Sv i h') (hbody : CB c.env.scope body is)
    (hturn : ∀ i u φ' Ω' (s' : Shared) (QU : Shared → Prop) (E' : Value → Shared → Prop), us[i]? = some u → Sv i s'.heap → StS (prog, w) b0 c E φ' Ω' s'.heap → LRel c wr Ω h₁ Ω' s'.heap →
      G (bnd u φ') (fun φ'' => ∀ h'' tk, Sv (i + 1) h'' → Kp c.fs (wr ++ c.Y Ω') s'.heap h'' → StS (prog, w) b0 c E φ'' Ω' h'' → QU { s' with heap := h'', toks := tk }) (XPostS b0 c Ω s Ex) →
      wpAny (model prog w) c.A (pyNext (.ref it)) (fun r s₁ => match r with | none => False | some v => wpAny (model prog w) c.A (letOwnedTupleGo target (.ref it) v) (fun _ s₂ => wpAny (model prog w) c.A (assign target c.env v) (fun _ s₃ => QU s₃) E' s₂) E' s₁) E' s')
    (hdone : ∀ φ' Ω' (s' : Shared) (QN : Shared → Prop) (E' : Value → Shared → Prop), Sv us.length s'.heap → StS (prog, w) b0 c E φ' Ω' s'.heap → LRel c wr Ω h₁ Ω' s'.heap →
      (∀ h'' tk, Kp c.fs (wr ++ c.Y Ω') s'.heap h'' → StS (prog, w) b0 c E φ' Ω' h'' → QN { s' with heap := h'', toks := tk }) → wpAny (model prog w) c.A (pyNext (.ref it)) (fun r s₁ => match r with | none => QN s₁ | some _ => False) E' s')
    (H : G (loopG r bnd is φ us) (ExPost (prog, w) b0 c E Ω s Q) (XPostS b0 c Ω s Ex)) :
    codeAny (model prog w) c.A (.forLoop target (.ref it) body [] c.env) (fun r s' => match r with | .ok f => Q f s' | .error e => cameBackBy (model prog w) c.A c.env Ex e s') { s with heap := h₁, toks := tk₁ } := by
  have fin : ∀ {Ω' h'}, LRel c wr Ω h₁ Ω' h' → Kp c.fs (c.Y Ω) s.heap h' ∧ Gr c s.heap Ω Ω' := fun {Ω' h'} rel => by
    refine ⟨(k₁.weak fun _ z => nomatch z).trans' rel.1 fun b o e hb => ?_, rel.2.2, fun a ha => ?_⟩
    · rcases List.mem_append.mp hb with hb | hb
      · rw [(hwr b hb).1] at e; cases e
      · exact hb
    · rcases rel.2.1 a ha with z | z
      · exact .inl z
      · exact .inr (none_back k₁ z)
  have step : ∀ {Ω' h' Y h''}, LRel c wr Ω h₁ Ω' h' → (∀ b ∈ Y, b ∈ wr ++ c.Y Ω') → Kp c.fs Y h' h'' → Kp c.fs (wr ++ c.Y Ω) h₁ h'' := fun {Ω' h' Y h''} rel hY k => rel.1.trans' k fun b o e hb => by
    rcases List.mem_append.mp (hY b hb) with z | z
    · exact List.mem_append_left _ z
    · rcases rel.2.1 b z with z | z
      · exact List.mem_append_right _ z
      · rw [z] at e; cases e
  refine codeAny_forLoop_any (LInv prog w b0 c E wr Ω h₁ r bnd is us Sv s Q Ex) ?_ (us.length + 1)
    ⟨h₁, tk₁, φ, Ω, 0, rfl, Nat.zero_le _, rfl, hst, st.kp k₁, ⟨.refl, fun _ z => .inl z, fun _ _ e => e⟩, by simpa using H⟩
  rintro k s' ⟨h', tk, φ', Ω', i, rfl, hi, rfl, hst', st', rel, Hi⟩
  by_cases hlt : i < us.length
  · have hd : us.drop i = us[i] :: us.drop (i + 1) := List.drop_eq_getElem_cons hlt
    rw [hd] at Hi
    have Hi := G.bind (res := bnd us[i] φ') Hi
    refine wpAny_mono (hturn i us[i] φ' Ω' { s with heap := h', toks := tk } (fun s₃ => wpAny (model prog w) c.A (execs body c.env) (fun f s₄ => match f with
        | .next | .cont => ∃ m, m < us.length + 1 - i ∧ LInv prog w b0 c E wr Ω h₁ r bnd is us Sv s Q Ex m s₄
        | .brk => Q .next s₄
        | .ret v => Q (.ret v) s₄) (notedBy (model prog w) c.A c.env (cameBackBy (model prog w) c.A c.env Ex)) s₃) (notedBy (model prog w) c.A c.env (cameBackBy (model prog w) c.A c.env Ex)) (List.getElem?_eq_getElem hlt) hst' st' rel (Hi.mono (fun φ'' _ Hi' h₂ tk₂ hst₂ k₂ st₂ => ?_) fun _ _ X => X)) (fun rr s₁ h₁' => ?_) fun _ _ x => x
    · have rel₂ : LRel c wr Ω h₁ Ω' h₂ := ⟨step rel (fun _ z => z) k₂, rel.2.1, rel.2.2⟩
      obtain ⟨kp₂, gr₂⟩ := fin rel₂
      refine wpAny_passesOwn hp.own (blk_sound (s := { s with heap := h₂, toks := tk₂ }) hX ok hf hp hbody st₂ ((G.bind (res := blk r φ'' is) Hi').mono (fun p _ Hp flow h₃ tk₃ Ω₃ hfl k₃ g₃ st₃ => ?_) fun _ _ X => X.step kp₂ gr₂))
      have rel₃ : LRel c wr Ω h₁ Ω₃ h₃ := by
        refine ⟨step rel₂ (fun _ z => List.mem_append_right _ z) k₃, fun a ha => ?_, fun x a e => g₃.1 x a (rel.2.2 x a e)⟩
        rcases g₃.2 a ha with z | z
        · exact rel.2.1 a z
        · by_cases hy : a ∈ c.Y Ω
          · exact .inl hy
          · refine .inr ?_
            cases e : h₁.get? a with
            | none => rfl
            | some o =>
              by_cases hw : a ∈ wr
              · obtain ⟨o', e'⟩ := hal _ _ hst₂ a hw
                have z' : h₂.get? a = none := z
                rw [z'] at e'; cases e'
              · obtain ⟨sl, e'⟩ := rel₂.1.there e (fun q => by rcases List.mem_append.mp q with q | q; exact hw q; exact hy q)
                have z' : h₂.get? a = none := z
                rw [z'] at e'; cases e'
      have hst₃ : Sv (i + 1) h₃ := hframe _ _ _ hst₂ fun b hb o e => k₃.off e (fun z => by
        rcases rel.2.1 b z with z | z
        · exact (hfp b hb).2.1 z
        · obtain ⟨o', e'⟩ := (hfp b hb).2.2; rw [z] at e'; cases e') (hfp b hb).1
      obtain ⟨kp₃, gr₃⟩ := fin rel₃
      obtain ⟨fl, φ₃⟩ := p
      cases fl with
      | next =>
        cases flow <;> first | exact hfl.elim | skip
        exact ⟨us.length + 1 - (i + 1), by omega, h₃, tk₃, φ₃, Ω₃, i + 1, rfl, hlt, rfl, hst₃, st₃, rel₃, Hp⟩
      | cont =>
        cases flow <;> first | exact hfl.elim | skip
        exact ⟨us.length + 1 - (i + 1), by omega, h₃, tk₃, φ₃, Ω₃, i + 1, rfl, hlt, rfl, hst₃, st₃, rel₃, Hp⟩
      | brk =>
        cases flow <;> first | exact hfl.elim | skip
        exact (show ExPost (prog, w) b0 c E Ω s Q (.next, φ₃) from Hp) .next h₃ tk₃ Ω₃ trivial kp₃ gr₃ st₃
      | ret d f =>
        cases flow <;> first | exact hfl.elim | skip
        exact (show ExPost (prog, w) b0 c E Ω s Q (.ret d f, φ₃) from Hp) _ h₃ tk₃ Ω₃ hfl kp₃ gr₃ st₃
    · cases rr with
      | none => exact h₁'.elim
      | some v => exact h₁'
  · have hin : i = us.length := by omega
    subst hin
    rw [List.drop_length] at Hi
    refine wpAny_mono (hdone φ' Ω' { s with heap := h', toks := tk } (fun s₁ => Q .next s₁) _ hst' st' rel fun h'' tk'' k'' st'' => ?_) (fun rr s₁ h₁' => ?_) fun _ _ x => x
    · obtain ⟨kp'', gr''⟩ := fin (Ω' := Ω') (h' := h'') ⟨step rel (fun _ z => z) k'', rel.2.1, rel.2.2⟩
      exact (show ExPost (prog, w) b0 c E Ω s Q (.next, φ') from Hi) .next h'' tk'' Ω' trivial kp'' gr'' st''
    · cases rr with
      | none => exact wpAny_execs_nil h₁'
      | some v => exact h₁'.elim
/-- objects that no slot can reach have changed -/
theorem StS.buts {P : Program × World} {h h' : Heap} {wr : List Addr} (st : StS P b0 c E φ Ω h) (hk : ∀ b o, b ∉ wr → h.get? b = some o → h'.get? b = some o) (hw : ∀ I ∈ wr, I ∉ c.Y Ω ∧ I ∉ c.fs ∧ (I ∈ E → ∃ o, h'.get? I = some o) ∧ b0.get? I = none ∧ ∀ o, h.get? I = some o → ¬ Held o) : StS P b0 c E φ Ω h' := by
  have up : ∀ ok : Addr → Prop, UpAt ok h h' := fun ok b o _ e hh' => hk b o (fun z => (hw b z).2.2.2.2 o e hh') e
  obtain ⟨m, cm, h1, h2, h3⟩ := st.st.loc
  refine ⟨⟨fun b o e => hk b o (fun z => by rw [(hw b z).2.2.2.1] at e; cases e) (st.st.stay b o e), ?_, ?_, ⟨m, cm, h1.at' (fun o e => hk _ o (fun z => (hw _ z).1 (own_Y (.head _))) e), fun y k e => ?_, fun y sl hl hy => ?_⟩, fun a ha => ?_, st.st.off⟩, st.nodup, st.dom, st.accE, st.apart⟩
  · exact ff_of st.st.ff fun b hb o e hd => ⟨o, hk b o (fun z => (hw b z).2.1 hb) e, hd⟩
  · intro b hb
    obtain ⟨o, e, hc⟩ := st.st.fc b hb
    exact ⟨o, hk b o (fun z => (hw b z).2.1 hb) e, hc⟩
  · obtain ⟨o, e', hd⟩ := h2 y k e
    exact ⟨o, hk k o (fun z => (hw k z).1 (own_Y (.tail _ (List.mem_map.mpr ⟨_, lookup_mem e, rfl⟩)))) e', hd⟩
  · have q := h3 y sl hl hy
    cases sl with
    | val d f =>
      obtain ⟨v, ev, rv⟩ := q
      exact ⟨v, ev, rv.mono (up _) fun b o hb e => hb⟩
    | acc ds =>
      obtain ⟨b, vs, q1, q2, q4, q5⟩ := q
      exact ⟨b, vs, q1, q2, q4.up fun o e _ => hk b o (fun z => (hw b z).1 (omega_Y q1)) e, q5.mono (up _) fun b o hb e => hb⟩
    | tab kvs =>
      obtain ⟨b, q1, q2, ps, ds, t1, t2, t3, t4, t5⟩ := q
      exact ⟨b, q1, q2, ps, ds, dict_up t1 (fun o e _ => hk b o (fun z => (hw b z).1 (omega_Y q1)) e), t2, t3.mono (up _) (fun b o hb e => hb), t4, t5⟩
    | gone => trivial
  · obtain ⟨o, e⟩ := st.st.alive a ha
    by_cases z : a ∈ wr
    · rcases ha with ha | ha
      · exact (hw a z).2.2.1 ha
      · exact absurd ha (hw a z).1
    · exact ⟨o, hk a o z e⟩
theorem StS.but {P : Program × World} {h h' : Heap} {I : Addr} (st : StS P b0 c E φ Ω h) (hk : ∀ b o, b ∉ [I] → h.get? b = some o → h'.get? b = some o) (hY : I ∉ c.Y Ω) (hfs : I ∉ c.fs) (hE : I ∉ E) (hb : b0.get? I = none) (hh : ∀ o, h.get? I = some o → ¬ Held o) : StS P b0 c E φ Ω h' :=
  st.buts hk fun J hJ => by cases List.mem_singleton.mp hJ; exact ⟨hY, hfs, fun z => absurd z hE, hb, hh⟩
/-- a plain walk: one name, or a tuple of names -/
theorem walk_sound {target : Expr} {iter : Expr} {body : List Stmt} {is : List IS} {bnd : V × Bool → Frm → Res Frm} {i : It} {p : Pos} (S : Stat (prog, w) b0 mg mb consts) (hE : SEv prog w b0 r n) (hX : SEx prog w b0 r n) (ok : c.Ok n) (hf : c.Fn) (hp : Passes prog w c Ex)
    (st : StS (prog, w) b0 c E φ Ω s.heap) (hi : CI c.env.scope iter i) (hs : i.simple = true) (hbody : CB c.env.scope body is)
    (hB : ∀ u φ' Ω' (s' : Shared) v (QU : Shared → Prop) (E' : Value → Shared → Prop) (X : Msg → Prop), StS (prog, w) b0 c E φ' Ω' s'.heap → R (prog, w) (fun a => u.2 = true → a ∉ E ∧ a ∉ c.Y Ω') s'.heap v u.1 → G (bnd u φ') (fun φ'' => ∀ h' tk, Kp c.fs (c.Y Ω') s'.heap h' → StS (prog, w) b0 c E φ'' Ω' h' → QU { s' with heap := h', toks := tk }) X →
      wpAny (model prog w) c.A (assign target c.env v) (fun _ s₃ => QU s₃) E' s')
    (hlet : ∀ (it v : Value) (s' : Shared) (Q : Shared → Prop) (E' : Value → Shared → Prop), (∀ I, it = .ref I → ∃ o, s'.heap.get? I = some o ∧ Plain o) → Q s' → wpAny (model prog w) c.A (letOwnedTupleGo target it v) (fun _ s₂ => Q s₂) E' s')
    (H : G ((iterI r φ i).bind fun us => loopG r bnd is φ us) (ExPost (prog, w) b0 c E Ω s Q) (XPostS b0 c Ω s Ex)) : wpAny (model prog w) c.A (exec (.For target iter body [] p) c.env) Q Ex s := by
  refine wpAny_For (iter_sound S hE ok st.st hi hs (H.bind.mono (fun us _ Hus I h₁ tk₁ ds f e hlen k₁ hI src => ?_) fun _ _ X => X.now st.st)) fun v => hi.noSet _ v
  subst e
  obtain ⟨fp, Pv, Sv, W, hst, hfp, hheld, hPv⟩ := src
  have hIfp : I ∈ fp := W.sub I (.head _)
  have hIE : I ∉ E := fun z => by obtain ⟨o, e⟩ := st.st.alive I (.inl z); rw [hI] at e; cases e
  have hIb : b0.get? I = none := by
    cases e : b0.get? I with
    | none => rfl
    | some o => rw [st.st.stay I o e] at hI; cases hI
  have hIY : ∀ Ω', (∀ a ∈ c.Y Ω', a ∈ c.Y Ω ∨ h₁.get? a = none) → I ∉ c.Y Ω' := fun Ω' hr z => by
    rcases hr I z with z | z
    · exact (hfp I hIfp).2.1 z
    · obtain ⟨o, e⟩ := (hfp I hIfp).2.2; rw [z] at e; cases e
  have hlenu : (ds.map fun d => (d, f)).length = ds.length := List.length_map ..
  refine loop_sound (fp := fp) (wr := [I]) (Sv := Sv) hX ok hf hp st k₁ hst hfp (fun b hb => by rw [List.mem_singleton] at hb; subst hb; exact ⟨hI, hIfp⟩) (fun i h hv b hb => by rw [List.mem_singleton] at hb; subst hb; obtain ⟨o, e, _⟩ := hheld i h hv; exact ⟨o, e⟩) W.frame hbody ?_ ?_ Hus
  · intro j u φ' Ω' s' QU E' hu hstj stj rel hb
    have hj : j < ds.length := by
      have := (List.getElem?_eq_some_iff.mp hu).1
      rw [hlenu] at this; exact this
    refine W.item j _ _ _ hj hstj fun v h₂ tk₂ hv hst₂ hk₂ => ?_
    obtain ⟨d, hd, rd⟩ := hPv j v hv
    have hu' : u = (d, f) := by
      rw [List.getElem?_map, hd] at hu
      exact (Option.some.inj hu).symm
    subst hu'
    have st₂ := stj.but (h' := h₂) (I := I) hk₂ (hIY Ω' rel.2.1) (hfp I hIfp).1 hIE hIb fun o e => by obtain ⟨o', e', nh, _⟩ := hheld j _ hstj; rw [e] at e'; cases e'; exact nh
    refine hlet _ _ _ _ _ (fun I' e => ?_) ?_
    · cases e; obtain ⟨o, e, _, hpl⟩ := hheld _ _ hst₂; exact ⟨o, e, hpl⟩
    have rv : R (prog, w) (fun a => f = true → a ∉ E ∧ a ∉ c.Y Ω') h₂ v d := by
      refine (rd.mono (ok' := fun a => f = true → a ∉ E ∧ a ∉ c.Y Ω') (h' := s'.heap) (fun b o hb e hh => rel.1.same e (fun z => ?_) hh.noFrame) fun b o hb e hf => ⟨hb.1 hf, fun z => ?_⟩).mono (fun b o _ e hh => hk₂ b o (fun z => ?_) e) fun _ _ x _ => x
      · rcases List.mem_append.mp z with z | z
        · rw [List.mem_singleton] at z
          obtain ⟨o', e', nh, _⟩ := hheld 0 h₁ hst
          rw [z, e'] at e; cases e; exact nh hh
        · exact hb.2 z
      · rcases rel.2.1 b z with z | z
        · exact hb.2 z
        · rw [z] at e; cases e
      · rw [List.mem_singleton] at z
        obtain ⟨o', e', nh, _⟩ := hheld j _ hstj
        rw [z, e'] at e; cases e; exact nh hh
    refine hB (d, f) φ' Ω' { s' with heap := h₂, toks := tk₂ } v _ _ _ st₂ rv (hb.mono (fun φ'' _ hb h₃ tk₃ k₃ st₃ => hb h₃ tk₃ ?_ ?_ st₃) fun _ _ X => X)
    · exact W.frame _ _ _ hst₂ fun b hb o e => k₃.off e (fun z => by
        rcases rel.2.1 b z with z | z
        · exact (hfp b hb).2.1 z
        · obtain ⟨o', e'⟩ := (hfp b hb).2.2; rw [z] at e'; cases e') (hfp b hb).1
    · exact (show Kp c.fs ([I] ++ c.Y Ω') s'.heap h₂ from fun b o e hb => .inl (hk₂ b o (fun z => hb (List.mem_append_left _ z)) e)).trans (k₃.weak fun _ z => List.mem_append_right _ z)
  · intro φ' Ω' s' QN E' hstj stj rel hq
    rw [hlenu] at hstj
    refine W.done _ _ _ hstj fun h₂ tk₂ hk₂ => hq h₂ tk₂ (fun b o e hb => .inl (hk₂ b o (fun z => hb (List.mem_append_left _ z)) e)) ?_
    exact stj.but (I := I) hk₂ (hIY Ω' rel.2.1) (hfp I hIfp).1 hIE hIb fun o e => by obtain ⟨o', e', nh, _⟩ := hheld _ _ hstj; rw [e] at e'; cases e'; exact nh
theorem ex_for1 {x : String} {xp p : Pos} {iter : Expr} {body : List Stmt} {i : It} {is : List IS} (S : Stat (prog, w) b0 mg mb consts) (hE : SEv prog w b0 r n) (hX : SEx prog w b0 r n) (ok : c.Ok n) (hf : c.Fn) (hp : Passes prog w c Ex) (st : StS (prog, w) b0 c E φ Ω s.heap)
    (hn : LName c.env.scope x) (hs : i.simple = true) (hi : CI c.env.scope iter i) (hbody : CB c.env.scope body is) (H : G (exI r φ (.for1 x i is)) (ExPost (prog, w) b0 c E Ω s Q) (XPostS b0 c Ω s Ex)) :
    wpAny (model prog w) c.A (exec (.For (.Name (nm x) xp) iter body [] p) c.env) Q Ex s := by
  refine walk_sound S hE hX ok hf hp st hi hs hbody (bnd := bnd1 x) (fun u φ' Ω' s' v QU E' X st' rv hb => ?_) (fun it v s' Q E' _ hq => wpAny_pure hq) H
  obtain ⟨rv, hb⟩ := (G.bind (res := fzV u) hb).fz rv
  exact wpAny_assign_Name (put_val (s := s') ok st' hn .refl rv fun h' tk k st'' => hb h' tk k st'')
theorem let_plain {es : List Expr} {k : Nat} {tp : Pos} (it v : Value) (s' : Shared) (Q : Shared → Prop) (E' : Value → Shared → Prop) (hp : ∀ I, it = .ref I → ∃ o, s'.heap.get? I = some o ∧ Plain o) (hq : Q s') :
    wpAny (model prog w) A (letOwnedTupleGo (.Tuple es k tp) it v) (fun _ s₂ => Q s₂) E' s' := by
  unfold letOwnedTupleGo
  dsimp only
  split
  · rename_i r a e0
    obtain ⟨o, ho, nme, hc, hnot⟩ := hp r (by injection e0)
    refine wpAny_bind (wpAny_load ho ?_)
    split
    · rename_i n' vs e1 e2
      rw [hc] at e1
      injection e1 with e1
      subst e1
      rw [hnot]
      exact wpAny_pure hq
    · exact wpAny_pure hq
  · exact wpAny_pure hq
theorem ex_forN {es : List Expr} {xs : List String} {k : Nat} {tp p : Pos} {iter : Expr} {body : List Stmt} {it : It} {is : List IS} (S : Stat (prog, w) b0 mg mb consts) (hE : SEv prog w b0 r n) (hX : SEx prog w b0 r n) (ok : c.Ok n) (hf : c.Fn) (hp : Passes prog w c Ex) (st : StS (prog, w) b0 c E φ Ω s.heap)
    (hc : CNs c.env.scope es xs) (hs : it.simple = true) (hi : CI c.env.scope iter it) (hb : CB c.env.scope body is) (H : G (exI r φ (.forN xs it is)) (ExPost (prog, w) b0 c E Ω s Q) (XPostS b0 c Ω s Ex)) :
    wpAny (model prog w) c.A (exec (.For (.Tuple es k tp) iter body [] p) c.env) Q Ex s := by
  refine walk_sound S hE hX ok hf hp st hi hs hb (bnd := bndN xs) (fun u φ' Ω' s' v QU E' X st' rv hb => ?_) (fun it v s' Q E' hpl hq => let_plain it v s' Q E' hpl hq) H
  obtain ⟨a, vs, ds, rfl, h0, hT, hsz, ra, hb⟩ := G.rTup hb rv
  exact unpack_sound (s := s') (QU := fun _ => QU) ok ok.handled hc st' hT ra hb
end
end Mine
end

section
set_option Elab.async false
namespace Mine
open PySem PySem.W PySem.Calls PyProof.Rows

section
variable {prog : Program} {w : World} {b0 : Heap} {mg mb : PySem.Str → Option Value} {consts : String → Option V} {r : Rec} {n : Nat} {c : Cx} {E : List Addr} {φ : Frm} {Ω Ω' : List (String × Addr)} {s : Shared} {Q : Flow → Shared → Prop} {QU : Unit → Shared → Prop} {Ex : Value → Shared → Prop} {A : Around}

/-- `for x in t: y = x; break` -/
theorem ex_pickFirst {x y t : String} {xp tp yp xp' p1 bp p : Pos} (ok : c.Ok n) (hp : Passes prog w c Ex) (st : StS (prog, w) b0 c E φ Ω s.heap) (hx : LName c.env.scope x) (hy : LName c.env.scope y) (ht : LName c.env.scope t)
    (H : G (exI r φ (.pickFirst x y t)) (ExPost (prog, w) b0 c E Ω s Q) (XPostS b0 c Ω s Ex)) : wpAny (model prog w) c.A (exec (.For (.Name (nm x) xp) (.Name (nm t) tp) [.Assign [.Name (nm y) yp] (.Name (nm x) xp') p1, .Break bp] [] p) c.env) Q Ex s := by
  dsimp only [exI] at H
  obtain ⟨kvs, hl, H⟩ := G.onTab H
  refine wpAny_For (tab_at ok st.st ht hl fun a ha _ => ?_) fun v => rfl
  obtain ⟨a', ps, ha', hD, hlo, hpr, hz⟩ := st.tab ht hl
  rw [ha] at ha'; cases ha'
  obtain ⟨ep, hat⟩ := hD.dictAt
  refine wpAny_pyIter_dict hlo hat ?_
  have hlt : a < s.heap.objs.size := hat.lt_size
  generalize hh₁ : s.heap.push { cls := .type "dict_keyiterator", data := .fields #[.ref a, .int 0 0, .int ps.length 0, .int ep 0] } = h₁
  have k₁ : Kp c.fs [] s.heap h₁ := by rw [← hh₁]; exact push_kp _
  have hIter : h₁.IsKeyIter s.heap.objs.size a 0 ps.length ep := by rw [← hh₁]; exact ⟨_, Heap.get?_push_size _ rfl, rfl, rfl⟩
  have hat₁ : h₁.DictAt (strKind prog w) a ps ep := by rw [← hh₁]; exact hat.push _
  have W := Walks.dictKeys (prog := prog) (w := w) (knd := strKind prog w) ok.handled s.heap.objs.size a (Nat.ne_of_lt hlt) ps ep
  have fr := st.st.fresh (Nat.le_refl _)
  have frf := st.st.new_fs (Nat.le_refl _)
  have st₁ := st.kp k₁
  have hIb : b0.get? s.heap.objs.size = none := by
    cases e : b0.get? s.heap.objs.size with
    | none => rfl
    | some o => exact absurd (Heap.lt_size (st.st.stay _ o e)) (Nat.lt_irrefl _)
  have nh : ∀ o, h₁.get? s.heap.objs.size = some o → ¬ Held o := fun o e => by
    obtain ⟨o', e', hc, _⟩ := hIter
    rw [e'] at e; cases e
    exact notHeld hc (by decide) (by decide) (by decide)
  refine codeAny_forLoop (fun k s' => k = 1 ∧ s' = { s with heap := h₁ }) ?_ 1 ⟨rfl, rfl⟩
  rintro k s' ⟨rfl, rfl⟩
  have kI : ∀ {h₂ : Heap}, (∀ b o, b ∉ [s.heap.objs.size] → h₁.get? b = some o → h₂.get? b = some o) → Kp c.fs (c.Y Ω) s.heap h₂ := fun {h₂} hk => by
    refine (k₁.weak fun _ z => nomatch z).trans' (Y' := [s.heap.objs.size]) (fun b o e hb => .inl (hk b o hb e)) fun b o e hb => ?_
    rw [List.mem_singleton] at hb; exact absurd (Heap.lt_size e) (by rw [hb]; exact Nat.lt_irrefl _)
  cases kvs with
  | nil =>
    cases ps with
    | cons p ps => exact nomatch hpr
    | nil =>
      refine W.done { s with heap := h₁ } _ _ ⟨hIter, hat₁⟩ fun h₂ tk₂ hk₂ => wpAny_execs_nil ?_
      exact (show ExPost (prog, w) b0 c E Ω s Q (.next, φ) from H) .next h₂ tk₂ Ω trivial (kI hk₂) .refl (st₁.but hk₂ fr.2 frf fr.1 hIb nh)
  | cons q kvs =>
    cases hpr with
    | cons rv hpr =>
      rename_i k0 v0 d0 ps _
      obtain ⟨hne, Hq⟩ := G.need (p := x ≠ t ∧ y ≠ t) H
      refine W.item 0 { s with heap := h₁ } _ _ (Nat.succ_pos _) ⟨hIter, hat₁⟩ fun v h₂ tk₂ hv _ hk₂ => ?_
      obtain ⟨k', x', e1, e2⟩ := hv
      cases e1
      obtain ⟨tkk, rfl⟩ := key_shape e2
      have hkl : k0.length ≤ sizeLine := hz.2 (k0, v0) (.head _)
      have st₂ := st₁.but (h' := h₂) hk₂ fr.2 frf fr.1 hIb nh
      refine wpAny_assign_Name (put_val (s := { s with heap := h₂, toks := tk₂ }) ok st₂ hx .refl (.str k0 tkk hkl) fun h₃ tk₃ k₃ st₃ => ?_)
      refine wpAny_execs_cons (wpAny_Assign_Name ?_ rfl)
      obtain ⟨m, cm, l1, l2, l3⟩ := st₃.st.loc
      obtain ⟨vx, ex, rx⟩ := l3 x (.val (.str k0) true) (by rw [upd_lookup, if_pos rfl]) hx
      obtain ⟨tx, rfl, _⟩ := rx.inv_str
      refine ld_at (s := { s with heap := h₃, toks := tk₃ }) ok hx l1 l2 ex ?_
      refine put_val (s := { s with heap := h₃, toks := tk₃ }) ok st₃ hy .refl (.str k0 tx hkl) fun h₄ tk₄ k₄ st₄ => ?_
      refine wpAny_execs_cons (wpAny_Break ?_)
      exact (show ExPost (prog, w) b0 c E Ω s Q (.next, upd y (.val (.str k0) true) (upd x (.val (.str k0) true) φ)) from Hq) .next h₄ tk₄ Ω trivial (((kI hk₂).trans k₃).trans k₄) .refl st₄
end
end Mine
end

section
set_option Elab.async false
set_option maxRecDepth 100000
namespace Mine
open PySem PySem.W PySem.Calls PyProof.Rows
open AutoSeq1 (wpAny_loadPart')

theorem typeCall_enum2 (a b : Value) : checkTypeCall "enumerate" ⟨[a, b], []⟩ = pure () := by kernel_rfl
theorem newCall_enum2 (a b : Value) : checkBuiltinCall "enumerate.__new__" ⟨[.type "enumerate", a, b], []⟩ = pure () := by kernel_rfl
theorem meets_enum2 (l : Addr) (items : Array Value) (n : Nat) (dct : Option Addr) (sl : Array (Option Value)) (t : Tok) :
    Meets (Builtin.«enumerate.__new__» ⟨[.type "enumerate", .ref l, .int 1 t], []⟩) (fun _ R s => s.heap.get? l = some { cls := .type "list", dict := dct, data := .seq items n, slots := sl } ∧
      R (.ok (.ret (.ref (s.heap.push { cls := .type "list_iterator", data := .fields #[.ref l, .int 0 0] }).objs.size)))
        { s with heap := (s.heap.push { cls := .type "list_iterator", data := .fields #[.ref l, .int 0 0] }).push { cls := .type "enumerate", data := .fields #[.none, .bool false, .ref s.heap.objs.size, rawInt 1, .none, .none] } }) :=
  .of_wp fun prog w A R s h => by
    obtain ⟨hp, g, d, tk, os⟩ := s; obtain ⟨hl, h⟩ := h
    have hsub := sub_enumerate
    have hL : Heap.IsList (Shared.heap ⟨hp, g, d, tk, os⟩) l items := ⟨_, hl, rfl, n, rfl⟩
    wp_walk using wpAny_loadPart' hl
    refine wpAny_stack_any fun st => wpAny_pure ?_
    split
    · rename_i c _ _ _ _ _
      cases (c == Value.type "enumerate")
      · wp_walk using wpAny_loadPart' hl, wpAny_pyIter_list hL
        exact ⟨_, rfl, h⟩
      · wp_walk using wpAny_loadPart' hl, wpAny_pyIter_list hL
        exact ⟨_, rfl, h⟩
    · wp_walk using wpAny_loadPart' hl, wpAny_pyIter_list hL
      exact ⟨_, rfl, h⟩
section
variable {prog : Program} {w : World} {A : Around} {E : Value → Shared → Prop} {s : Shared}
theorem call_enum2 {l : Addr} {items : Array Value} {t : Tok} {Q : Value → Shared → Prop} (hL : s.heap.IsList l items)
    (h : ∀ h', IsEnum h' (s.heap.objs.size + 1) s.heap.objs.size 1 .none → h'.IsListIter s.heap.objs.size l 0 → h'.objs.size = s.heap.objs.size + 2 →
      (∀ b o, s.heap.get? b = some o → h'.get? b = some o) → Q (.ref (s.heap.objs.size + 1)) { s with heap := h' }) :
    wpAny (model prog w) A (call (.type "enumerate") [.ref l, .int 1 t]) Q E s := by
  obtain ⟨⟨c, dct, dt, sl⟩, hl, hc, n, hd⟩ := hL
  replace hc : c = .type "list" := hc
  replace hd : dt = .seq items n := hd
  subst hc hd
  refine callType_new F.called_enumerate (by decide) (typeCall_enum2 _ _) (newCall_enum2 _ _) (fun obj => F.initArgs_range_2 obj _ _) F.entry_enumerate_new (meets_enum2 l items n dct sl t) ⟨hl, ?_⟩
  have hz : (s.heap.push { cls := .type "list_iterator", data := .fields #[.ref l, .int 0 0] }).objs.size = s.heap.objs.size + 1 := Heap.size_push ..
  show _ ∧ _
  rw [hz]
  have he : IsEnum ((s.heap.push { cls := .type "list_iterator", data := .fields #[.ref l, .int 0 0] }).push
      { cls := .type "enumerate", data := .fields #[.none, .bool false, .ref s.heap.objs.size, rawInt 1, .none, .none] }) (s.heap.objs.size + 1) s.heap.objs.size 1 .none := by
    have := Heap.get?_push_size (s.heap.push { cls := .type "list_iterator", data := .fields #[.ref l, .int 0 0] })
      (o := { cls := .type "enumerate", data := .fields #[.none, .bool false, .ref s.heap.objs.size, rawInt 1, .none, .none] }) rfl
    rw [hz] at this; exact this
  refine ⟨⟨_, he, rfl⟩, h _ he ⟨_, Heap.get?_push_of_some _ (Heap.get?_push_size _ rfl), rfl, rfl⟩ (by rw [Heap.size_push, hz]) fun b o x => Heap.get?_push_of_some _ (Heap.get?_push_of_some _ x)⟩
/-- the next pair, whatever number stands first -/
theorem enum_item {e it l : Addr} {i : Nat} {j : Int} {items : Array Value} {x old : Value} {Q : Value → Shared → Prop}
    (he : IsEnum s.heap e it j old) (hit : s.heap.IsListIter it l i) (hl : s.heap.IsList l items) (hx : items[i]? = some x) (hne : e ≠ it)
    (hQ : ∀ h', IsEnumOut h' e it (j + 1) x s.heap.objs.size → h'.IsListIter it l (i + 1) →
      h'.get? s.heap.objs.size = some { cls := .type "tuple", data := .seq #[.int j s.toks, x] } →
      (∀ b o, b ≠ e → b ≠ it → s.heap.get? b = some o → h'.get? b = some o) → Q (.ref s.heap.objs.size) { s with heap := h', toks := s.toks + 1 }) :
    wpAny (model prog w) A (Builtin.«enumerate.__next__» ⟨[.ref e], []⟩) (fun fin s' => ∃ v, fin = .done (.ret v) ∧ Q v s') E s := by
  obtain ⟨hp, g, d, tk, os⟩ := s
  show wpAny _ _ (field (.ref e) 2 >>= _) _ _ _
  refine wpAny_bind (wpAny_field he rfl (x := .ref it) rfl ?_)
  refine wpAny_bind (wpAny_nextOf_list_item hit hl hx fun h₁ hit₁ hs₁ => ?_)
  replace hs₁ : Heap.SameBut it hp h₁ := hs₁
  have he₁ : IsEnum h₁ e it j old := (hs₁.2 e hne).trans he
  show wpAny _ _ (field (.ref e) 3 >>= _) _ _ ⟨h₁, g, d, tk, os⟩
  refine wpAny_bind (wpAny_field he₁ rfl (x := rawInt j) rfl ?_)
  show wpAny _ _ (field (.ref e) 4 >>= _) _ _ ⟨h₁, g, d, tk, os⟩
  refine wpAny_bind (wpAny_field he₁ rfl (x := .none) rfl ?_)
  show wpAny _ _ (mkInt j >>= _) _ _ ⟨h₁, g, d, tk, os⟩
  refine wpAny_bind (wpAny_mkInt ?_)
  show wpAny _ _ (setField (.ref e) 3 (rawInt (j + 1)) >>= _) _ _ ⟨h₁, g, d, tk + 1, os⟩
  refine wpAny_bind (wpAny_setField_rec he₁ (by simp) fun h₂ he₂ hs₂ => ?_)
  replace hs₂ : Heap.SameBut e h₁ h₂ := hs₂
  replace he₂ : IsEnum h₂ e it (j + 1) old := he₂
  show wpAny _ _ (setField (.ref e) 4 .none >>= _) _ _ ⟨h₂, g, d, tk + 1, os⟩
  refine wpAny_bind (wpAny_setField_rec he₂ (by simp) fun h₃ he₃ hs₃ => ?_)
  replace hs₃ : Heap.SameBut e h₂ h₃ := hs₃
  replace he₃ : IsEnum h₃ e it (j + 1) old := he₃
  show wpAny _ _ (newTuple [.int j tk, x] >>= _) _ _ ⟨h₃, g, d, tk + 1, os⟩
  refine wpAny_bind (wpAny_newTuple ?_)
  have he₄ : IsEnum (h₃.push { cls := .type "tuple", data := .seq #[.int j tk, x] }) e it (j + 1) old := Heap.get?_push_of_some _ he₃
  generalize hh₄ : h₃.push { cls := .type "tuple", data := .seq #[.int j tk, x] } = h₄ at he₄
  have hsz : h₃.objs.size = hp.objs.size := by rw [hs₃.1, hs₂.1, hs₁.1]
  have hel : e < hp.objs.size := Heap.lt_size he
  have ht₄ : h₄.get? hp.objs.size = some { cls := .type "tuple", data := .seq #[.int j tk, x] } := by rw [← hh₄, ← hsz]; exact Heap.get?_push_size _ rfl
  have hk₄ : ∀ b o, b ≠ e → b ≠ it → hp.get? b = some o → h₄.get? b = some o := fun b o hbe hbi hb => by
    rw [← hh₄]; exact Heap.get?_push_of_some _ (hs₃.extBut b o hbe (hs₂.extBut b o hbe (hs₁.extBut b o hbi hb)))
  have hit₄ : h₄.IsListIter it l (i + 1) := by
    rw [← hh₄]; obtain ⟨o, ho, r⟩ := (hit₁.extBut hs₂.extBut (Ne.symm hne)).extBut hs₃.extBut (Ne.symm hne); exact ⟨o, Heap.get?_push_of_some _ ho, r⟩
  show wpAny _ _ (Builtin.SmallTypes.ownedTupleIsFree (.ref e) >>= _) _ _ ⟨h₄, g, d, tk + 1, os⟩
  rw [hsz]
  clear hh₄ he₃ hs₃ he₂ hs₂ he₁ hs₁ hit₁ hsz h₃ h₂ h₁
  refine wpAny_bind ?_
  · unfold Builtin.SmallTypes.ownedTupleIsFree
    refine wpAny_bind (wpAny_field he₄ rfl (x := .none) rfl (wpAny_pure ?_))
    simp only [if_true]
    refine wpAny_bind (wpAny_rule ?_)
    refine wpAny_bind (wpAny_field he₄ rfl (x := old) rfl ?_)
    refine wpAny_bind (wpAny_setField_rec he₄ (by simp) fun h₅ he₅ hs₅ => ?_)
    replace hs₅ : Heap.SameBut e h₄ h₅ := hs₅
    replace he₅ : IsEnum h₅ e it (j + 1) x := he₅
    show wpAny _ _ (Builtin.SmallTypes.ownedTupleHandOut (.ref e) (.ref hp.objs.size) >>= _) _ _ ⟨h₅, g, d, tk + 1, os⟩
    refine wpAny_bind ?_
    · unfold Builtin.SmallTypes.ownedTupleHandOut
      refine wpAny_bind (wpAny_setField_rec he₅ (by simp) fun h₆ he₆ hs₆ => ?_)
      replace hs₆ : Heap.SameBut e h₅ h₆ := hs₆
      replace he₆ : IsEnumOut h₆ e it (j + 1) x hp.objs.size := he₆
      refine wpAny_setField_rec he₆ (by simp) fun h₇ he₇ hs₇ => ?_
      replace hs₇ : Heap.SameBut e h₆ h₇ := hs₇
      replace he₇ : IsEnumOut h₇ e it (j + 1) x hp.objs.size := he₇
      refine wpAny_bind (wpAny_letGo (wpAny_pure ⟨_, rfl, hQ h₇ he₇ ?_ ?_ ?_⟩))
      · exact ((hit₄.extBut hs₅.extBut (Ne.symm hne)).extBut hs₆.extBut (Ne.symm hne)).extBut hs₇.extBut (Ne.symm hne)
      · exact hs₇.extBut _ _ (Nat.ne_of_gt hel) (hs₆.extBut _ _ (Nat.ne_of_gt hel) (hs₅.extBut _ _ (Nat.ne_of_gt hel) ht₄))
      · exact fun b o hbe hbi hb => hs₇.extBut b o hbe (hs₆.extBut b o hbe (hs₅.extBut b o hbe (hk₄ b o hbe hbi hb)))
theorem enum_next {e it l : Addr} {i : Nat} {j : Int} {items : Array Value} {x old : Value} {Q : Option Value → Shared → Prop}
    (he : IsEnum s.heap e it j old) (hit : s.heap.IsListIter it l i) (hl : s.heap.IsList l items) (hx : items[i]? = some x) (hne : e ≠ it)
    (hQ : ∀ h', IsEnumOut h' e it (j + 1) x s.heap.objs.size → h'.IsListIter it l (i + 1) →
      h'.get? s.heap.objs.size = some { cls := .type "tuple", data := .seq #[.int j s.toks, x] } →
      (∀ b o, b ≠ e → b ≠ it → s.heap.get? b = some o → h'.get? b = some o) → Q (some (.ref s.heap.objs.size)) { s with heap := h', toks := s.toks + 1 }) :
    wpAny (model prog w) A (pyNext (.ref e)) Q E s := by
  have hT : s.TypeIs (.ref e) "enumerate" := ⟨_, he, rfl⟩
  unfold pyNext
  exact wpAny_bind (wpAny_attempt (wpAny_callSpecial?_slot (name := PySem.Str.ofString "__next__") hT F.slot_enumerate_next
    (wpAny_call_entry F.slot_enumerate_next hT F.entry_enumerate_next
      (enum_item he hit hl hx hne fun h' a b c k => wpAny_pure (hQ h' a b c k)) (F.args_enumerate_next_1 _))))
theorem enum_end {e it l : Addr} {i : Nat} {j : Int} {items : Array Value} {old : Value} {Q : Option Value → Shared → Prop} (hh : A.handled = none)
    (he : IsEnum s.heap e it j old) (hit : s.heap.IsListIter it l i) (hl : s.heap.IsList l items) (hx : items[i]? = none)
    (hQ : ∀ h', Heap.ExtBut it s.heap h' → Q none { s with heap := h' }) : wpAny (model prog w) A (pyNext (.ref e)) Q E s := by
  have hT : s.TypeIs (.ref e) "enumerate" := ⟨_, he, rfl⟩
  unfold pyNext
  refine wpAny_bind (wpAny_attempt (wpAny_callSpecial?_slot (name := PySem.Str.ofString "__next__") hT F.slot_enumerate_next
    (wpAny_call_entry F.slot_enumerate_next hT F.entry_enumerate_next ?_ (F.args_enumerate_next_1 _))))
  show wpAny _ _ (field (.ref e) 2 >>= _) _ _ _
  refine wpAny_bind (wpAny_field he rfl (x := .ref it) rfl ?_)
  refine wpAny_bind (wpAny_nextOf_list_end hh hit hl hx fun h' x he' hx' => ?_)
  obtain ⟨o, ho, hc⟩ := hx'
  refine wpAny_bind (wpAny_isInstance (T := "StopIteration") (b := true) ⟨o, ho, hc⟩ isSubtype_stop ?_)
  exact wpAny_pure (hQ _ he')
end
end Mine
end

section
set_option Elab.async false
namespace Mine
open PySem PySem.W PySem.Calls PyProof.Rows

section
variable {prog : Program} {w : World} {b0 : Heap} {mg mb : PySem.Str → Option Value} {consts : String → Option V} {r : Rec} {n : Nat} {c : Cx} {E : List Addr} {φ : Frm} {Ω Ω' : List (String × Addr)} {s : Shared} {Q : Flow → Shared → Prop} {QU : Unit → Shared → Prop} {Ex : Value → Shared → Prop} {A : Around}

theorem ex_forE {x y : String} {xp yp tp np cp ip p : Pos} {k ck : Nat} {e : Expr} {body : List Stmt} {i : IE} {is : List IS} (S : Stat (prog, w) b0 mg mb consts) (hE : SEv prog w b0 r n) (hX : SEx prog w b0 r n) (ok : c.Ok n) (hf : c.Fn) (hp : Passes prog w c Ex) (st : StS (prog, w) b0 c E φ Ω s.heap)
    (hx : LName c.env.scope x) (hy : LName c.env.scope y) (hxy : x ≠ y) (hg : GName c.env.scope "enumerate") (he : CE c.env.scope e i) (hb : CB c.env.scope body is) (H : G (exI r φ (.forN [x, y] (.enum i) is)) (ExPost (prog, w) b0 c E Ω s Q) (XPostS b0 c Ω s Ex)) :
    wpAny (model prog w) c.A (exec (.For (.Tuple [.Name (nm x) xp, .Name (nm y) yp] k tp) (.Call (.Name (nm "enumerate") np) [e, .Constant (.int 1) ck cp] [] ip) body [] p) c.env) Q Ex s := by
  dsimp only [exI, iterI] at H
  have hcn : CNs c.env.scope [.Name (nm x) xp, .Name (nm y) yp] [x, y] := .cons hx (by rw [List.mem_singleton]; exact hxy) (.cons hy (fun z => nomatch z) .nil)
  refine wpAny_For (Call_ (ld_boot S ok st.st hg (S.free _ (by decide)) boot_enum (by decide) (callWith_type1 ?_ (he.star _ _) rfl))) fun v => rfl
  refine args_cons ?_ (he.star _ _)
  refine evIt_sound hE ok st.st he (H.bind.bind.mono (fun u _ Hu v h₀ tk₀ k₀ r₀ => args_cons (wpAny_Constant_int (args_nil ?_)) rfl) fun _ _ X => X.now st.st)
  obtain ⟨l, vs, ds, rfl, hl0, la, ra, Hu⟩ := Hu.rList r₀
  obtain ⟨hlim, Hq⟩ := Hu.need
  · generalize u.2 = f at Hq hl0 ra
    have Hq' : G (loopG r (bndN [x, y]) is φ (ds.zipIdx.map fun p => (V.tuple [.int ((p.2 : Int) + 1), p.1], f))) (ExPost (prog, w) b0 c E Ω s Q) (XPostS b0 c Ω s Ex) := Hq
    obtain ⟨ol, kl, el, hcl, hdl, hszl⟩ := id la
    have st₀ := st.st.kp k₀
    refine call_enum2 (s := { s with heap := h₀, toks := tk₀ + 1 }) la.isList fun h₁ hen hit hsz₁ hk₁ => ?_
    refine wpAny_pyIter_enum hen ?_
    generalize hite : ({ s with heap := h₀, toks := tk₀ + 1 } : Shared).heap.objs.size = it at hen hit hsz₁
    have hite' : h₀.objs.size = it := hite
    have hlit : l < it := by rw [← hite']; exact Heap.lt_size el
    have k₁ : Kp c.fs [] s.heap h₁ := k₀.trans (.of_keeps hk₁)
    have fr : ∀ b, it ≤ b → b ∉ E ∧ b ∉ c.Y Ω ∧ b ∉ c.fs ∧ s.heap.get? b = none ∧ b0.get? b = none := fun b hb => by
      have h1 := st₀.fresh (a := b) (by omega)
      have h2 : s.heap.get? b = none := none_back k₀ (gone_of_le (by omega))
      refine ⟨h1.1, h1.2, st₀.new_fs (by omega), h2, ?_⟩
      cases q : b0.get? b with
      | none => rfl
      | some o => rw [st.st.stay b o q] at h2; cases h2
    have hL₁ : h₁.IsList l vs.toArray := ⟨ol, hk₁ l ol el, hcl, kl, hdl⟩
    have hnotE : ∀ {h : Heap} {j old}, IsEnum h (it + 1) it j old → ∀ o, h.get? (it + 1) = some o → ¬ Held o := fun {h j old} q o e => by
      rw [q] at e; cases e; exact notHeld rfl (by decide) (by decide) (by decide)
    have hnotI : ∀ {h : Heap} {i}, h.IsListIter it l i → ∀ o, h.get? it = some o → ¬ Held o := fun {h i} q o e => by
      obtain ⟨o', e', hc, _⟩ := q; rw [e'] at e; cases e; exact notHeld hc (by decide) (by decide) (by decide)
    have hge : ∀ I ∈ [it + 1, it], it ≤ I := fun I hI => by
      rcases List.mem_cons.mp hI with rfl | hI
      · exact Nat.le_succ _
      · rw [List.mem_singleton] at hI; rw [hI]; exact Nat.le_refl _
    have hne1 : it + 1 ≠ it := Nat.succ_ne_self it
    have hlnot : l ∉ [it + 1, it] := fun z => Nat.not_lt.mpr (hge l z) hlit
    have hwrel : ∀ Ω', (∀ a ∈ c.Y Ω', a ∈ c.Y Ω ∨ h₁.get? a = none) → ∀ I ∈ [it + 1, it], I ∉ c.Y Ω' := fun Ω' hr I hI z => by
      have hI0 := hI
      have hal : ∃ o, h₁.get? I = some o := by
        simp at hI
        rcases hI with rfl | rfl
        · exact ⟨_, hen⟩
        · obtain ⟨o, e, _⟩ := hit; exact ⟨o, e⟩
      rcases hr I z with z | z
      · exact (fr I (hge I hI0)).2.1 z
      · obtain ⟨o, e⟩ := hal; rw [z] at e; cases e
    have hen0 : IsEnum h₁ (it + 1) it (((0 : Nat) : Int) + 1) .none := by rw [show (((0 : Nat) : Int) + 1) = 1 from rfl]; exact hen
    refine loop_sound (s := s) (tk₁ := tk₀ + 1) (fp := [it + 1, it, l]) (wr := [it + 1, it]) (Sv := fun i h => (∃ old, IsEnum h (it + 1) it ((i : Int) + 1) old) ∧ h.IsListIter it l i ∧ h.IsList l vs.toArray) hX ok hf hp st k₁ ⟨⟨_, hen0⟩, hit, hL₁⟩ (fun b hb => ?_) (fun b hb => ?_) (fun i h hv b hb => ?_) (fun i h h' hv hk => ?_) hb ?_ ?_ Hq'
    · simp at hb
      rcases hb with rfl | rfl | rfl
      · exact ⟨(fr _ (by omega)).2.2.1, (fr _ (by omega)).2.1, _, hen⟩
      · obtain ⟨o, e, _⟩ := hit; exact ⟨(fr _ (Nat.le_refl _)).2.2.1, (fr _ (Nat.le_refl _)).2.1, o, e⟩
      · exact ⟨st₀.off_fs el hcl (by decide), hl0.2, _, hk₁ _ ol el⟩
    · simp at hb
      rcases hb with rfl | rfl
      · exact ⟨(fr _ (by omega)).2.2.2.1, by simp⟩
      · exact ⟨(fr _ (Nat.le_refl _)).2.2.2.1, by simp⟩
    · obtain ⟨⟨old, q1⟩, q2, _⟩ := hv
      simp at hb
      rcases hb with rfl | rfl
      · exact ⟨_, q1⟩
      · obtain ⟨o, e, _⟩ := q2; exact ⟨o, e⟩
    · obtain ⟨⟨old, q1⟩, q2, q3⟩ := hv
      exact ⟨⟨old, hk _ (by simp) _ q1⟩, q2.at fun o e => hk it (by simp) o e, q3.at fun o e => hk l (by simp) o e⟩
    · intro j u φ' Ω' s' QU E' hu hv st' rel hbnd
      obtain ⟨⟨old, q1⟩, q2, q3⟩ := hv
      rw [List.getElem?_map] at hu
      cases hz : ds.zipIdx[j]? with
      | none => rw [hz] at hu; cases hu
      | some pz =>
        rw [hz] at hu
        have hu' := Option.some.inj hu
        rw [List.getElem?_zipIdx] at hz
        cases hdj : ds[j]? with
        | none => rw [hdj] at hz; cases hz
        | some dj =>
          rw [hdj] at hz
          cases hz
          subst hu'
          obtain ⟨vj, hvj, rvj⟩ := ra.get hdj
          have hjnat : ((0 + j : Nat) : Int) + 1 = (j : Int) + 1 := by omega
          refine enum_next q1 q2 q3 (show vs.toArray[j]? = some vj by simpa using hvj) hne1 fun h₂ o2 i2 t2 kk2 => ?_
          refine wpAny_letOwnedTupleGo_enum o2 fun h₃ e3 s3 => ?_
          have hTe : s'.heap.objs.size ≠ it + 1 := Nat.ne_of_gt (Heap.lt_size q1)
          have hTi : s'.heap.objs.size ≠ it := by obtain ⟨o, e, _⟩ := q2; exact Nat.ne_of_gt (Heap.lt_size e)
          have hk3 : ∀ b o, b ∉ [it + 1, it] → s'.heap.get? b = some o → h₃.get? b = some o := fun b o hb e => (s3.2 b fun z => hb (by simp [z])).trans (kk2 b o (fun z => hb (by simp [z])) (fun z => hb (by simp [z])) e)
          have st₃ : StS (prog, w) b0 c E φ' Ω' h₃ := st'.buts (wr := [it + 1, it]) hk3 fun I hI => by
            refine ⟨hwrel Ω' rel.2.1 I hI, ?_, ?_, ?_, ?_⟩
            · exact (fr I (hge I hI)).2.2.1
            · exact fun z => absurd z (fr I (hge I hI)).1
            · exact (fr I (hge I hI)).2.2.2.2
            · simp at hI
              rcases hI with rfl | rfl
              · exact hnotE q1
              · exact hnotI q2
          have hT3 : IsTup h₃ s'.heap.objs.size [Value.int ((j : Int) + 1) s'.toks, vj].toArray := ⟨_, (s3.2 _ hTe).trans t2, rfl, _, rfl⟩
          have rv3 : R (prog, w) (fun a => f = true → a ∉ E ∧ a ∉ c.Y Ω') h₃ vj dj := by
            refine ((rvj.mono (ok' := fun a => (f = true → a ∉ E) ∧ a ∉ c.Y Ω) (h' := h₁) (keep_up hk₁) fun _ _ x _ => x).mono (ok' := fun a => f = true → a ∉ E ∧ a ∉ c.Y Ω') (h' := s'.heap) (fun b o hb e hh => rel.1.same e (fun z => ?_) hh.noFrame) fun b o hb e hf => ⟨hb.1 hf, fun z => ?_⟩).mono (fun b o _ e hh => hk3 b o (fun z => ?_) e) fun _ _ x _ => x
            · rcases List.mem_append.mp z with z | z
              · simp at z
                rcases z with rfl | rfl
                · exact hnotE hen o e hh
                · exact hnotI hit o e hh
              · exact hb.2 z
            · rcases rel.2.1 b z with z | z
              · exact hb.2 z
              · rw [z] at e; cases e
            · simp at z
              rcases z with rfl | rfl
              · exact hnotE q1 o e hh
              · exact hnotI q2 o e hh
          dsimp only at hbnd
          rw [hjnat] at hbnd
          refine unpack_sound (s := { s' with heap := h₃, toks := s'.toks + 1 }) ok ok.handled hcn st₃ hT3 (.cons (.int _ _) (.cons rv3 .nil)) (G.mono (res := updAll f [x, y] [.int ((j : Int) + 1), dj] φ') hbnd (fun φ'' _ hq h₄ tk₄ k₄ st₄ => hq h₄ tk₄ ?_ ?_ st₄) fun _ _ X => X)
          · have nY : ∀ b ∈ [it + 1, it, l], b ∉ c.Y Ω' ∧ b ∉ c.fs := fun b hb => by
              simp at hb
              rcases hb with rfl | rfl | rfl
              · exact ⟨hwrel Ω' rel.2.1 _ (by simp), (fr _ (by omega)).2.2.1⟩
              · exact ⟨hwrel Ω' rel.2.1 _ (by simp), (fr _ (Nat.le_refl _)).2.2.1⟩
              · refine ⟨fun z => ?_, st₀.off_fs el hcl (by decide)⟩
                rcases rel.2.1 _ z with z | z
                · exact hl0.2 z
                · rw [hk₁ _ ol el] at z; cases z
            have kk4 : ∀ b ∈ [it + 1, it, l], ∀ o, h₃.get? b = some o → h₄.get? b = some o := fun b hb o e => k₄.off e (nY b hb).1 (nY b hb).2
            have e3' : IsEnum h₃ (it + 1) it (((j + 1 : Nat) : Int) + 1) vj := by
              have := e3
              rw [show (((j + 1 : Nat) : Int) + 1) = ((j : Int) + 1) + 1 by omega]
              exact this
            exact ⟨⟨_, kk4 _ (by simp) _ e3'⟩, (i2.at fun o e => (s3.2 it hne1.symm).trans e).at fun o e => kk4 it (by simp) o e, (q3.at fun o e => hk3 l o hlnot e).at fun o e => kk4 l (by simp) o e⟩
          · exact (show Kp c.fs ([it + 1, it] ++ c.Y Ω') s'.heap h₃ from fun b o e hb => .inl (hk3 b o (fun z => hb (List.mem_append_left _ z)) e)).trans (k₄.weak fun _ z => List.mem_append_right _ z)
    · intro φ' Ω' s' QN E' hv st' rel hq
      obtain ⟨⟨old, q1⟩, q2, q3⟩ := hv
      have hlen : (ds.zipIdx.map fun p => (V.tuple [.int ((p.2 : Int) + 1), p.1], f)).length = vs.length := by rw [List.length_map, List.length_zipIdx, ra.length]
      rw [hlen] at q1 q2
      refine enum_end ok.handled q1 q2 q3 (by simp) fun h₂ hx => ?_
      have hk2 : ∀ b o, b ∉ [it + 1, it] → s'.heap.get? b = some o → h₂.get? b = some o := fun b o hb e => hx b o (fun z => hb (by simp [z])) e
      refine hq h₂ _ (fun b o e hb => .inl (hk2 b o (fun z => hb (List.mem_append_left _ z)) e)) (st'.buts hk2 fun I hI => ?_)
      refine ⟨hwrel Ω' rel.2.1 I hI, ?_, ?_, ?_, ?_⟩
      · exact (fr I (hge I hI)).2.2.1
      · exact fun z => absurd z (fr I (hge I hI)).1
      · exact (fr I (hge I hI)).2.2.2.2
      · simp at hI
        rcases hI with rfl | rfl
        · exact hnotE q1
        · exact hnotI q2
end
end Mine
end

section
set_option Elab.async false
namespace Mine
open PySem PySem.W PySem.Calls PyProof.Rows

theorem dropName_cls (name : PySem.Str) (o : Obj) : (o.dropName name).cls = o.cls := by
  obtain ⟨c, d, dt, sl⟩ := o
  cases dt with
  | dict es n =>
    dsimp only [Obj.dropName]
    first | rfl | (split <;> rfl)
  | _ => rfl
theorem dropName_data (name : PySem.Str) (o : Obj) (es : Array DictEntry) (n : Nat) (hd : o.data = .dict es n) : ∃ es' n', (o.dropName name).data = .dict es' n' := by
  obtain ⟨c, d, dt, sl⟩ := o
  subst hd
  dsimp only [Obj.dropName]
  first | exact ⟨_, _, rfl⟩ | (split <;> exact ⟨_, _, rfl⟩)
theorem dropName_alive' (name : PySem.Str) (o : Obj) (es : Array DictEntry) (n : Nat) (hd : o.data = .dict es n) : (o.dropName name).isFreed = false := by
  obtain ⟨es', n', h⟩ := dropName_data name o es n hd
  exact Obj.isFreed_of_dict h
theorem nsDel_cls {M : Model} {A : Around} {E : Value → Shared → Prop} {s : Shared} {a : Addr} {m : PySem.Str → Option Value} {name : PySem.Str} {Q : Bool → Shared → Prop} (hn : s.heap.Ns a m)
    (hQ : ∀ h' v, h'.Ns a (fun x => if x = name then v else m x) → Heap.SameBut a s.heap h' → (∀ o, s.heap.get? a = some o → ∃ o', h'.get? a = some o' ∧ o'.cls = o.cls ∧ ∀ vs, o'.data ≠ .fields vs) → Q (m name).isSome { s with heap := h' }) : wpAny M A (nsDel a name) Q E s := by
  have key : ∀ (Q : Bool → Shared → Prop), wpAny M A (nsDel a name) Q E s → wpAny M A (nsDel a name) (fun b s' => Q b s' ∧ ∃ h', s' = { s with heap := h' } ∧ ∀ o, s.heap.get? a = some o → ∃ o', h'.get? a = some o' ∧ o'.cls = o.cls ∧ ∀ vs, o'.data ≠ .fields vs) E s := by
    intro Q hq Γ p hΓ
    have hq' := hq Γ p hΓ
    obtain ⟨o, es, ep, ho, hd, hk, hm⟩ := id hn
    have hany : es.any (·.refKey) = false := by
      rw [Array.any_eq_false']; intro e he; obtain ⟨n, t, h⟩ := hk e he; simp [DictEntry.refKey, h]
    have hhas : nsHas name o = pure (es.any (·.key.isStr name)) := by
      rw [nsHas_eq]; unfold nsHasByArray; rw [hd]
      show (if (es.any fun x => x.key.isStr name) = true then _ else _) = _
      generalize (es.any fun x => x.key.isStr name) = b
      cases b <;> simp [hany]
    unfold nsDel at hq' ⊢
    simp only [Sem.wp_bind'] at hq' ⊢
    rw [Sem.wp_loadPart_of M Γ _ p s (o := o) _ ho] at hq' ⊢
    simp only [hhas, Sem.wp_pure'] at hq' ⊢
    cases hb : es.any (·.key.isStr name) with
    | false =>
      simp only [hb, Bool.false_eq_true, if_false, Sem.wp_pure'] at hq' ⊢
      exact ⟨hq', s.heap, rfl, fun o' e => ⟨o', e, rfl, by rw [ho] at e; cases e; intro vs q; rw [hd] at q; cases q⟩⟩
    | true =>
      simp only [hb, if_true, Sem.wp_bind', Sem.wp_cmd_updatePart, Sem.wp_pure'] at hq' ⊢
      refine ⟨hq'.1, hq'.2, _, rfl, fun o' e => ?_⟩
      rw [ho] at e; cases e
      refine ⟨_, Heap.get?_update_self _ ho (dropName_alive' _ _ _ _ hd), dropName_cls _ _, fun vs q => ?_⟩
      obtain ⟨es', n', h⟩ := dropName_data name o es ep hd
      rw [h] at q; cases q
  refine wpAny_mono (key _ (wpAny_nsDel_keeps (Q := fun b s' => ∃ h', s' = { s with heap := h' } ∧ b = (m name).isSome ∧ ∃ v, h'.Ns a (fun x => if x = name then v else m x) ∧ Heap.SameBut a s.heap h') hn fun h' v h1 h2 => ⟨h', rfl, rfl, v, h1, h2⟩)) (fun b s' h => ?_) fun _ _ x => x
  obtain ⟨⟨h', rfl, rfl, v, h1, h2⟩, h'', e, h3⟩ := h
  have : h' = h'' := congrArg Shared.heap e
  subst this
  exact hQ h' v h1 h2 h3
/-- behind the handler its name is gone -/
theorem name_goes {M : Model} {A : Around} {E : Value → Shared → Prop} {s : Shared} {env : Env} {n : PySem.Str} {pos : Pos} {m : PySem.Str → Option Value} {Q : Unit → Shared → Prop} (hl : env.kindOf n = some .local) (hn : s.heap.Ns env.locals m) (hk : env.scope.kind = .function)
    (h : ∀ h' v, h'.Ns env.locals (fun x => if x = n then v else m x) → Heap.SameBut env.locals s.heap h' → (∀ o, s.heap.get? env.locals = some o → ∃ o', h'.get? env.locals = some o' ∧ o'.cls = o.cls ∧ ∀ vs, o'.data ≠ .fields vs) → Q () { s with heap := h', toks := s.toks + 1 }) :
    wpAny M A (do bindName env n .none; unbindBehindTheSuite env n pos) Q E s := by
  have hp : (env.scope.kind == .class || (env.scope.kind == .module && env.locals != env.globals)) = false := by rw [hk]; rfl
  refine wpAny_bind (wpAny_bindName (store_local hl hn hk fun h₁ hn₁ hs₁ hc₁ => ?_))
  unfold unbindBehindTheSuite
  refine wpAny_onRaise ?_
  unfold unbindName
  refine wpAny_bind (wpAny_point (wpAny_bind ?_))
  unfold deleteName
  simp only [hl, hp]
  rw [if_neg (by decide)]
  refine wpAny_bind (nsDel_cls hn₁ fun h₂ v hn₂ hs₂ hc₂ => ?_)
  simp only [if_true, Option.isSome_some, Bool.not_true, Bool.false_eq_true, if_false]
  refine wpAny_pure (wpAny_point (h h₂ v ?_ (hs₁.trans hs₂) fun o e => ?_))
  · have e : (fun x => if x = n then v else (fun x => if x = n then some Value.none else m x) x) = fun x => if x = n then v else m x := by
      funext x
      by_cases hx : x = n <;> simp [hx]
    rw [← e]; exact hn₂
  · obtain ⟨o₁, e₁, c₁, _⟩ := hc₁ o e
    obtain ⟨o₂, e₂, c₂, d₂⟩ := hc₂ o₁ e₁
    exact ⟨o₂, e₂, c₂.trans c₁, d₂⟩
end Mine
end

section
set_option Elab.async false
namespace Mine
open PySem PySem.W PySem.Calls PyProof.Rows

/-! ## what leaves place 2 of every record as it is -/
noncomputable def tame2 (f : Obj → Obj) : Prop := ∀ o vs, o.data = .fields vs → ∃ vs', (f o).data = .fields vs' ∧ vs'[2]? = vs[2]?
noncomputable def TameP {α : Type} (U : (Obj → Obj) → Prop) : Sem α → Prop
  | .pure _ => True
  | .raise _ => True
  | .unsupported _ => True
  | .finish _ => True
  | .rule _ k => TameP U (k ())
  | .at _ k => TameP U (k ())
  | .load _ _ k => ∀ o, TameP U (k o)
  | .update _ _ f k => U f ∧ TameP U (k ())
  | .alloc _ k => ∀ a, TameP U (k a)
  | .loadIfAlive _ k => ∀ o, TameP U (k o)
  | .point _ k => TameP U (k ())
  | .register _ _ => True
  | .fresh k => ∀ t, TameP U (k t)
  | .ask k => ∀ t, TameP U (k t)
  | .choose _ _ k => ∀ t, TameP U (k t)
  | .os _ _ k => ∀ t, TameP U (k t)
  | .call .. => False
  | .handled _ k => ∀ t, TameP U (k t)
  | .newGen _ k => ∀ t, TameP U (k t)
  | .genState _ k => ∀ t, TameP U (k t)
  | .resume .. => False
  | .yield .. => True
  | .stack k => ∀ t, TameP U (k t)
  | .fork .. => True
  | .thread k => ∀ t, TameP U (k t)
  | .await .. => True
abbrev Tame {α : Type} (t : Sem α) : Prop := TameP tame2 t
theorem TameP.bind {α β : Type} {U : (Obj → Obj) → Prop} {t : Sem α} {k : α → Sem β} (h : TameP U t) (hk : ∀ a, TameP U (k a)) : TameP U (t >>= k) := by
  show TameP U (Sem.bind t k)
  induction t with
  | pure a => exact hk a
  | raise e => trivial
  | unsupported _ => trivial
  | finish _ => trivial
  | rule _ k' ih => exact ih () h
  | «at» _ k' ih => exact ih () h
  | load a _ k' ih => exact fun o => ih o (h o)
  | update a _ f k' ih => exact ⟨h.1, ih () h.2⟩
  | alloc o k' ih => exact fun a => ih a (h a)
  | loadIfAlive a k' ih => exact fun a => ih a (h a)
  | point _ k' ih => exact ih () h
  | register _ _ => trivial
  | fresh k' ih => exact fun a => ih a (h a)
  | ask k' ih => exact fun a => ih a (h a)
  | choose _ _ k' ih => exact fun a => ih a (h a)
  | os _ _ k' ih => exact fun a => ih a (h a)
  | call => exact h.elim
  | handled _ k' ih => exact fun a => ih a (h a)
  | newGen _ k' ih => exact fun a => ih a (h a)
  | genState _ k' ih => exact fun a => ih a (h a)
  | resume => exact h.elim
  | yield => trivial
  | stack k' ih => exact fun a => ih a (h a)
  | fork => trivial
  | thread k' ih => exact fun a => ih a (h a)
  | await => trivial
noncomputable def F2 (e : Addr) (v : Value) (h : Heap) : Prop := ∃ o vs, h.get? e = some o ∧ o.data = .fields vs ∧ vs[2]? = some v
theorem F2.update {e a : Addr} {v : Value} {h : Heap} {f : Obj → Obj} (x : F2 e v h) (hf : tame2 f) : F2 e v (h.update a f) := by
  obtain ⟨o, vs, he, hd, h2⟩ := x
  by_cases z : a = e
  · subst z
    obtain ⟨vs', hd', h2'⟩ := hf o vs hd
    exact ⟨_, vs', Heap.get?_update_self _ he (Obj.isFreed_of_fields hd'), hd', h2'.trans h2⟩
  · exact ⟨o, vs, (Heap.get?_update_other _ _ z).trans he, hd, h2⟩
theorem F2.push {e : Addr} {v : Value} {h : Heap} {o : Obj} (x : F2 e v h) : F2 e v (h.push o) := by
  obtain ⟨o, vs, he, r⟩ := x
  exact ⟨o, vs, Heap.get?_push_of_some _ he, r⟩
theorem wp_inv {α : Type} (M : Model) (Γ : Ctx) {U : (Obj → Obj) → Prop} {Inv : Heap → Prop} (hu : ∀ h a f, U f → (h.get? a).isSome = true → Inv h → Inv (h.update a f)) (hp : ∀ h o, Inv h → Inv (h.push o)) (t : Sem α) : ∀ (Q : α → Pos → Shared → Prop) (E : Value → Pos → Shared → Prop) (p : Pos) (s : Shared), TameP U t → Inv s.heap → Sem.wp M Γ t Q E p s →
    Sem.wp M Γ t (fun a p' s' => Inv s'.heap ∧ Q a p' s') (fun x p' s' => Inv s'.heap ∧ E x p' s') p s := by
  induction t with
  | pure a => intro Q E p s _ hn h; exact ⟨hn, h⟩
  | raise e => intro Q E p s _ hn h; exact ⟨hn, h⟩
  | unsupported _ => intro Q E p s _ _ h; exact h
  | finish _ => intro Q E p s _ _ h; exact h
  | rule _ k ih => intro Q E p s ht hn h; exact ih () Q E p s ht hn h
  | «at» p' k ih => intro Q E p s ht hn h; exact ih () Q E p' s ht hn h
  | load a _ k ih => intro Q E p s ht hn h; obtain ⟨o, ho, h⟩ := h; exact ⟨o, ho, ih o Q E p s (ht o) hn h⟩
  | update a _ f k ih => intro Q E p s ht hn h; exact ⟨h.1, ih () Q E p _ ht.2 (hu _ _ _ ht.1 h.1 hn) h.2⟩
  | loadIfAlive a k ih => intro Q E p s ht hn h; exact ih _ Q E p s (ht _) hn h
  | point _ k ih => intro Q E p s ht hn h; exact ih () Q E p s ht hn h
  | register _ _ => intro Q E p s _ _ h; exact h
  | alloc o k ih => intro Q E p s ht hn h; exact ih _ Q E p _ (ht _) (hp _ _ hn) h
  | fresh k ih => intro Q E p s ht hn h; exact ih _ Q E p _ (ht _) hn h
  | ask k ih => intro Q E p s ht hn h; exact ih _ Q E p s (ht _) hn h
  | choose src m k ih => intro Q E p s ht hn h; exact ⟨h.1, ih _ Q E p _ (ht _) hn h.2⟩
  | os q _ k ih => intro Q E p s ht hn h; exact ih _ Q E p _ (ht _) hn h
  | call => intro Q E p s ht; exact ht.elim
  | handled own k ih => intro Q E p s ht hn h; exact ih _ Q E p s (ht _) hn h
  | genState g k ih => intro Q E p s ht hn h; obtain ⟨st, hs, h⟩ := h; exact ⟨st, hs, ih _ Q E p s (ht _) hn h⟩
  | newGen c k ih => intro Q E p s ht hn h; exact ih _ Q E p _ (ht _) hn h
  | resume => intro Q E p s ht; exact ht.elim
  | yield _ _ _ _ => intro Q E p s _ _ h; exact h
  | stack k ih => intro Q E p s ht hn h; exact ih _ Q E p s (ht _) hn h
  | fork _ _ => intro Q E p s _ _ h; exact h
  | thread k ih => intro Q E p s ht hn h; exact ih _ Q E p s (ht _) hn h
  | await _ _ _ _ _ => intro Q E p s _ _ h; exact h
theorem wp_tame {α : Type} (M : Model) (Γ : Ctx) (e : Addr) (v : Value) (t : Sem α) (Q : α → Pos → Shared → Prop) (E : Value → Pos → Shared → Prop) (p : Pos) (s : Shared) (ht : Tame t) (hn : F2 e v s.heap) (h : Sem.wp M Γ t Q E p s) :
    Sem.wp M Γ t (fun a p' s' => F2 e v s'.heap ∧ Q a p' s') (fun x p' s' => F2 e v s'.heap ∧ E x p' s') p s := wp_inv M Γ (fun _ _ _ hf _ x => x.update hf) (fun _ _ x => x.push) t Q E p s ht hn h
theorem wpAny_tame {α : Type} {M : Model} {A : Around} {s : Shared} {t : Sem α} {Q : α → Shared → Prop} {E : Value → Shared → Prop} {e : Addr} {v : Value} (ht : Tame t) (hn : F2 e v s.heap) (h : wpAny M A t Q E s) :
    wpAny M A t (fun a s' => F2 e v s'.heap ∧ Q a s') (fun x s' => F2 e v s'.heap ∧ E x s') s := fun Γ p hΓ => wp_tame M Γ e v t _ _ p s ht hn (h Γ p hΓ)
/-- the same, if it matters at all -/
theorem wpAny_tame' {α : Type} {M : Model} {A : Around} {s : Shared} {t : Sem α} {Q : α → Shared → Prop} {E : Value → Shared → Prop} {e : Addr} {b : Bool} (ht : Tame t) (hn : b = true → F2 e .none s.heap) (h : wpAny M A t Q E s) :
    wpAny M A t (fun a s' => (b = true → F2 e .none s'.heap) ∧ Q a s') E s := by
  cases b with
  | false => exact wpAny_mono h (fun _ _ x => ⟨(fun z => nomatch z), x⟩) fun _ _ x => x
  | true => exact wpAny_mono (wpAny_tame ht (hn rfl) h) (fun _ _ x => ⟨fun _ => x.1, x.2⟩) fun _ _ x => x.2
theorem Tame.pure' {α : Type} (a : α) : Tame (Pure.pure a : Sem α) := trivial
theorem Tame.load' (a : Addr) : Tame (load a) := fun _ => trivial
theorem Tame.alloc' (o : Obj) : Tame (alloc o) := fun _ => trivial
theorem Tame.stack' : Tame stack := fun _ => trivial
theorem Tame.update' {a : Addr} {f : Obj → Obj} (h : tame2 f) : Tame (update a f) := ⟨h, trivial⟩
theorem Tame.fields (v : Value) : Tame (fieldsOf v) := by
  unfold fieldsOf
  cases v <;> first | trivial | skip
  refine TameP.bind (Tame.load' _) fun o => ?_
  split <;> trivial
theorem Tame.field' (v : Value) (i : Nat) : Tame (field v i) := by
  unfold field
  refine TameP.bind (Tame.fields v) fun vs => ?_
  split <;> trivial
theorem tame2_set {i : Nat} {x : Value} (hi : i ≠ 2) : tame2 (Obj.mapFields (·.setIfInBounds i x)) := fun o vs hd => ⟨_, Obj.data_mapFields hd _, by rw [Array.getElem?_setIfInBounds_ne hi]⟩
theorem Tame.set {v x : Value} {i : Nat} (hi : i ≠ 2) : Tame (setField v i x) := by
  unfold setField
  cases v <;> first | trivial | skip
  unfold updateField
  refine TameP.bind (Tame.load' _) fun o => ?_
  split
  · split
    · exact Tame.update' (tame2_set hi)
    · trivial
  · trivial
theorem Tame.flight (e : Value) (f : Option Addr) : Tame (setFlight e f) := by
  unfold setFlight
  refine TameP.bind (Tame.field' _ _) fun tb => ?_
  split
  · exact Tame.set (by decide)
  · trivial
theorem Tame.ready (l : List Env) : Tame (readyFrames l) := by
  induction l with
  | nil => trivial
  | cons env outer ih =>
    unfold readyFrames
    split
    · refine TameP.bind (Tame.load' _) fun o => ?_
      split
      · trivial
      · refine TameP.bind ?_ fun b => ?_
        · unfold behindIsImport
          split
          · trivial
          · split
            · trivial
            · exact TameP.bind (Tame.field' _ _) fun _ => trivial
        · refine TameP.bind ?_ fun bk => ?_
          · unfold keptBack
            split
            · split
              · trivial
              · refine TameP.bind ?_ fun _ => ?_
                · unfold underTheClaimsCaller
                  exact TameP.bind Tame.stack' fun _ => trivial
                · trivial
            · trivial
          · exact TameP.bind (Tame.update' fun o vs hd => ⟨vs, hd, rfl⟩) fun _ => ih
    · trivial
theorem Tame.frameOf' (env : Env) : Tame (PySem.frameOf env) := by
  unfold PySem.frameOf
  refine TameP.bind (TameP.bind Tame.stack' fun _ => trivial) fun l => TameP.bind ?_ fun x => ?_
  · unfold frameObject
    split
    · trivial
    · exact TameP.bind (Tame.ready _) fun _ => trivial
  · split <;> trivial
theorem Tame.newFields' (ty : String) (vs : List Value) : Tame (newFields ty vs) := by
  unfold newFields newObj
  dsimp only
  split
  · trivial
  · unfold newObjAsIs
    refine TameP.bind (Tame.alloc' _) fun a => ?_
    trivial
theorem Tame.note (e : Value) (env : Env) : Tame (noteFrame e env) := by
  unfold noteFrame
  split
  · refine TameP.bind (Tame.field' _ _) fun head => ?_
    have tail : Tame (do setField e 1 (← EntryCells.newEntry head (← PySem.frameOf env) .none (rawInt ‹Addr›) .none (← entryPlaceOf ‹Addr› (head != .none)))) := by
      refine TameP.bind (Tame.frameOf' _) fun a => TameP.bind ?_ fun pl => TameP.bind (Tame.newFields' _ _) fun b => Tame.set (by decide)
      unfold entryPlaceOf
      refine TameP.bind Tame.stack' fun acts => ?_
      split <;> trivial
    split
    · refine TameP.bind (Tame.field' _ _) fun x => ?_
      split
      · trivial
      · exact TameP.bind (Tame.set (by decide)) fun _ => tail
    · exact tail
  · trivial
theorem Tame.leave (e : Value) (env : Env) : Tame (leaving env e) := TameP.bind (Tame.note e env) fun _ => Tame.flight e _
end Mine
end

section
set_option Elab.async false
namespace Mine
open PySem PySem.W PySem.Calls PyProof.Rows

theorem ff_base {b0 h h' : Heap} {fs : List Addr} {l : List Env} (hfs : ∀ b ∈ l.filterMap (·.frame), b ∈ fs) (hf : h.FunFrames b0 l) (k : ∀ b o, h.get? b = some o → h'.get? b = some o) : h'.FunFrames (hideAll h fs) l := by
  induction l with
  | nil => trivial
  | cons e l ih =>
    obtain ⟨h1, ⟨L, o, h2, h3, h4, h5⟩, h6⟩ := hf
    exact ⟨h1, ⟨L, o, h2, hideAll_none _ (hfs L (List.mem_filterMap.mpr ⟨e, .head _, h2⟩)), k L o h4, h5⟩, ih (fun b hb => hfs b (by obtain ⟨x, hx, hxb⟩ := List.mem_filterMap.mp hb; exact List.mem_filterMap.mpr ⟨x, .tail _ hx, hxb⟩)) h6⟩
theorem Raw.f2 {h h' : Heap} {x : Addr} {m : Msg} (r : Raw h x m h') : m.2 = true → F2 x .none h' := fun hm => by
  obtain ⟨o, vs, t, tk, e, _, hd, _, _, h2, _⟩ := r.there
  exact ⟨o, vs, e, hd, h2 hm⟩
section
variable {prog : Program} {w : World} {b0 : Heap} {c : Cx} {s : Shared} {Ex : Value → Shared → Prop} {A : Around}

/-- the exception leaves the def, for its caller -/
theorem leave_sound {outer : List Env} {hc h₁ h' : Heap} {x : Addr} {m : Msg} {tk : Nat} {QU : Unit → Shared → Prop} (hA : A.frames = some c.stk) (hs : c.stk = c.env :: outer) (hf : c.env.frame = some c.env.locals) (g : Ground b0 c h₁)
    (k : Kp (outer.filterMap (·.frame)) [] hc h₁) (hL : hc.get? c.env.locals = none) (lit : Lit c.stk h₁ x m h') (H : ∀ h'', Fly outer hc x m h'' → QU () { s with heap := h'', toks := tk }) :
    wpAny (model prog w) A (leaving c.env (.ref x)) QU Ex { s with heap := h', toks := tk } := by
  have hst : (hideAll hc (outer.filterMap (·.frame))).StaysIn (hideAll h₁ (c.stk.filterMap (·.frame))) := fun b o e => by
    have e1 := of_hideAll _ e
    have hb : b ∉ outer.filterMap (·.frame) := fun z => by rw [hideAll_none _ z] at e; cases e
    refine hideAll_get _ (k.off e1 (by simp) hb) fun z => ?_
    rw [hs] at z
    obtain ⟨y, hy, hyb⟩ := List.mem_filterMap.mp z
    rcases List.mem_cons.mp hy with rfl | hy
    · have : c.env.locals = b := Option.some.inj (hf.symm.trans hyb)
      rw [← this, hL] at e1; cases e1
    · exact hb (List.mem_filterMap.mpr ⟨y, hy, hyb⟩)
  have hup : hc.UpToSlots h₁ := k.slots
  have fin : ∀ {t tk' h''}, Heap.FlyingW (hideAll h₁ (c.stk.filterMap (·.frame))) outer x (.type "ValueError") (.ref t) h'' → h''.TupAt t [.str m.1 tk'] → (hideAll h₁ (c.stk.filterMap (·.frame))).get? t = none → h₁.UpToSlots h'' → m.1.length ≤ sizeLine → (m.2 = true → F2 x .none h'') → Fly outer hc x m h'' :=
    fun fl ht hn up hl hc2 => ⟨⟨_, _, flyingW_base hst fl, ht, fresh_of_stays hst hn⟩, hup.trans up, hl, hc2⟩
  rcases lit with f | r | hx
  · obtain ⟨t, tk', fl, ht, hn⟩ := f.fly
    have base : wpAny (model prog w) A (leaving c.env (.ref x)) (fun _ s' => ∃ h'', s' = { s with heap := h'', toks := tk } ∧ Heap.FlyingW (hideAll h₁ (c.stk.filterMap (·.frame))) outer x (.type "ValueError") (.ref t) h'' ∧ h'.UpToSlots h'') Ex { s with heap := h', toks := tk } :=
      wpAny_leaves_onW (hA.trans (by rw [hs])) hf (hs ▸ fl) fun h'' fl' up' => ⟨h'', rfl, fl', up'⟩
    refine wpAny_mono (wpAny_tame' (b := m.2) (e := x) (Tame.leave _ _) f.ctx base) (fun _ s' hq => ?_) fun _ _ y => y
    obtain ⟨hc2, h'', rfl, fl', up'⟩ := hq
    exact H h'' (fin fl' (ht.of_slots up') hn (f.up.trans up') f.len hc2)
  · obtain ⟨o, vs, t, tk', e, hcl, hd, v0, v1, v2, tn, ht⟩ := r.there
    have hff : h'.FunFrames (hideAll h₁ (c.stk.filterMap (·.frame))) c.stk := ff_base (fun _ z => z) g.ff r.keeps
    have hkb : (hideAll h₁ (c.stk.filterMap (·.frame))).StaysIn h' := fun b ob eb => r.keeps b ob (of_hideAll _ eb)
    have no : ∀ {a}, h₁.get? a = none → (hideAll h₁ (c.stk.filterMap (·.frame))).get? a = none := fun {a} ea => by
      cases q : (hideAll h₁ (c.stk.filterMap (·.frame))).get? a with
      | none => rfl
      | some ob => rw [of_hideAll _ q] at ea; cases ea
    have base : wpAny (model prog w) A (leaving c.env (.ref x)) (fun _ s' => ∃ h'', s' = { s with heap := h'', toks := tk } ∧ Heap.FlyingW (hideAll h₁ (c.stk.filterMap (·.frame))) outer x (.type "ValueError") (.ref t) h'' ∧ h'.UpToSlots h'') Ex { s with heap := h', toks := tk } := by
      refine wpAny_leaving_firstW (s := { s with heap := h', toks := tk }) (base := hideAll h₁ (c.stk.filterMap (·.frame))) (outer := outer) (hA.trans (by rw [hs])) (hs ▸ hff) hf e hkb (no r.new) hd v1 v0 fun h'' hl => ?_
      obtain ⟨k1, ⟨_, _, k2⟩, k3, k4⟩ := hl
      rw [hcl] at k3
      exact ⟨h'', rfl, ⟨k1, no r.new, k2, k3⟩, k4⟩
    refine wpAny_mono (wpAny_tame' (b := m.2) (e := x) (Tame.leave _ _) r.f2 base) (fun _ s' hq => ?_) fun _ _ y => y
    obtain ⟨hc2, h'', rfl, fl', up'⟩ := hq
    exact H h'' (fin fl' (ht.of_slots up') (no tn) ((Heap.UpToSlots.of_keeps r.keeps).trans up') r.len hc2)
  · obtain ⟨t, tk', L, hLe, hh, ht, hn⟩ := hx.fly
    have hLe' : L = c.env.locals := by rw [hs] at hLe; exact Option.some.inj (hLe.symm.trans hf)
    subst hLe'
    have base : wpAny (model prog w) A (leaving c.env (.ref x)) (fun _ s' => ∃ h'', s' = { s with heap := h'', toks := tk } ∧ Heap.FlyingW (hideAll h₁ (c.stk.filterMap (·.frame))) outer x (.type "ValueError") (.ref t) h'' ∧ h'.UpToSlots h'') Ex { s with heap := h', toks := tk } := by
      unfold leaving
      refine wpAny_bind (wpAny_noteFrame_againW hf hh.2.2.2 ?_)
      refine wpAny_landsW hh fun h'' hfl up => ?_
      rw [hs] at hfl
      obtain ⟨k1, k2, ⟨_, _, k3⟩, k4⟩ := hfl
      exact ⟨h'', rfl, ⟨hs ▸ k1, hs ▸ k2, hs ▸ k3, hs ▸ k4⟩, up⟩
    refine wpAny_mono (wpAny_tame' (b := m.2) (e := x) (Tame.leave _ _) hx.ctx base) (fun _ s' hq => ?_) fun _ _ y => y
    obtain ⟨hc2, h'', rfl, fl', up'⟩ := hq
    exact H h'' (fin fl' (ht.of_slots up') hn (hx.up.trans up') hx.len hc2)
end
end Mine
end

section
set_option Elab.async false
namespace Mine
open PySem PySem.W PySem.Calls PyProof.Rows

noncomputable def keepCls (f : Obj → Obj) : Prop := ∀ o, (f o).cls = o.cls
theorem kc_forIn {α β : Type} {U : (Obj → Obj) → Prop} {f : α → β → Sem (ForInStep β)} (hf : ∀ a b, TameP U (f a b)) (l : List α) : ∀ (b : β), TameP U (forIn l b f) := by
  induction l with
  | nil => intro b; rw [List.forIn_nil]; trivial
  | cons a l ih =>
    intro b
    rw [List.forIn_cons]
    refine TameP.bind (hf a b) fun x => ?_
    cases x with
    | done c => trivial
    | yield c => exact ih c
theorem kc_nsSet (a : Addr) (name : PySem.Str) (v : Value) : TameP keepCls (nsSet a name v) := by
  unfold nsSet strHash mkText
  refine TameP.bind (TameP.bind (fun _ => trivial) fun _ => trivial) fun h => TameP.bind (TameP.bind (fun _ => trivial) fun _ => trivial) fun key => TameP.bind (fun _ => trivial) fun o => ?_
  split
  · split
    · trivial
    · exact ⟨fun o => putName_cls _ _ _ _ _, trivial⟩
  · trivial
theorem kc_cellSet (a : Addr) (v : Option Value) : TameP keepCls (cellSet a v) := by
  unfold cellSet
  refine TameP.bind (fun _ => trivial) fun o => ?_
  split
  · exact ⟨fun o => rfl, trivial⟩
  · trivial
theorem kc_cellOf (env : Env) (name : PySem.Str) : TameP keepCls (cellOf env name) := by
  unfold cellOf
  split <;> trivial
theorem kc_storeName {env : Env} (hk : env.scope.kind = .function) (name : PySem.Str) (v : Value) : TameP keepCls (storeName env name v) := by
  have h1 : (env.scope.kind == ScopeKind.class) = false := by rw [hk]; rfl
  have h2 : (env.scope.kind == ScopeKind.module) = false := by rw [hk]; rfl
  unfold storeName
  simp only [h1, h2, Bool.false_and, Bool.or_false, Bool.false_or, Bool.false_eq_true, if_false]
  split
  · exact kc_nsSet _ _ _
  · exact kc_nsSet _ _ _
  · exact TameP.bind (kc_cellOf _ _) fun a => kc_cellSet _ _
  · exact TameP.bind (kc_cellOf _ _) fun a => kc_cellSet _ _
  · split
    · trivial
    · exact kc_nsSet _ _ _
  · exact kc_nsSet _ _ _
noncomputable def ClsAt (L : Addr) (h : Heap) : Prop := L < h.objs.size ∧ ∀ o, h.get? L = some o → o.cls = .type "frame"
theorem ClsAt.upd {L a : Addr} {h : Heap} {f : Obj → Obj} (hf : keepCls f) (ha : (h.get? a).isSome = true) (x : ClsAt L h) : ClsAt L (h.update a f) := by
  refine ⟨by cases h; simp only [Heap.update, Array.size_modify]; exact x.1, fun o e => ?_⟩
  by_cases z : a = L
  · subst z
    obtain ⟨o₀, e₀⟩ := Option.isSome_iff_exists.mp ha
    by_cases hfr : (f o₀).isFreed = false
    · rw [Heap.get?_update_self f e₀ hfr] at e; cases e
      rw [hf o₀]; exact x.2 o₀ e₀
    · obtain ⟨e1, e2⟩ := Heap.get?_some_iff.mp e
      obtain ⟨e3, _⟩ := Heap.get?_some_iff.mp e₀
      have : o = f o₀ := by
        cases h
        simp only [Heap.update, Array.getElem?_modify, if_true] at e1
        simp only at e3
        rw [e3] at e1
        exact (Option.some.inj e1).symm
      rw [this, hf o₀]; exact x.2 o₀ e₀
  · rw [Heap.get?_update_other _ _ z] at e; exact x.2 o e
theorem ClsAt.push {L : Addr} {h : Heap} {o : Obj} (x : ClsAt L h) : ClsAt L (h.push o) := by
  refine ⟨by rw [Heap.size_push]; exact Nat.lt_succ_of_lt x.1, fun o' e => ?_⟩
  obtain ⟨e1, e2⟩ := Heap.get?_some_iff.mp e
  refine x.2 o' (Heap.get?_some_iff.mpr ⟨?_, e2⟩)
  have hx := x.1
  cases h
  simp only [Heap.push] at e1
  rw [Array.getElem?_push] at e1
  split at e1
  · rename_i z; exact absurd z (Nat.ne_of_lt hx)
  · exact e1
theorem new_env {M : Model} {A : Around} {E : Value → Shared → Prop} {s : Shared} {scope : Scope} {globals : Addr} {binds : List (PySem.Str × Value)} {qual : PySem.Str} {func : Option Addr} {code : Value} {builtins : Addr} {Q : Env → Shared → Prop}
    (hk : scope.kind = .function)
    (hkind : ∀ x ∈ binds, scope.names.lookup x.1 = some .local ∨ (scope.names.lookup x.1 = some .cell ∧ ((cellsFrom (s.heap.objs.size + 1) scope.names []).lookup x.1).isSome = true))
    (hQ : ∀ env, env = newEnv scope s.heap.objs.size globals (cellsFrom (s.heap.objs.size + 1) scope.names []) qual func code none builtins →
      ∀ s', InCallC s env.locals (bindL env.kindOf binds fun _ => none) env.cells (bindC env.kindOf binds fun _ => none) s' → (∃ o, s'.heap.get? env.locals = some o ∧ o.cls = .type "frame") → Q env s') :
    wpAny M A (newFunctionEnv scope globals [] binds qual func code none builtins) Q E s := by
  have lib := wpAny_newFunctionEnv_cells (M := M) (A := A) (E := E) (globals := globals) (qual := qual) (func := func) (code := code) (builtins := builtins) (Q := fun env s' => env = newEnv scope s.heap.objs.size globals (cellsFrom (s.heap.objs.size + 1) scope.names []) qual func code none builtins ∧ InCallC s env.locals (bindL env.kindOf binds fun _ => none) env.cells (bindC env.kindOf binds fun _ => none) s') hk hkind fun env he s' x => ⟨he, x⟩
  have key : wpAny M A (newFunctionEnv scope globals [] binds qual func code none builtins) (fun env s' => ClsAt s.heap.objs.size s'.heap ∧ (env = newEnv scope s.heap.objs.size globals (cellsFrom (s.heap.objs.size + 1) scope.names []) qual func code none builtins ∧ InCallC s env.locals (bindL env.kindOf binds fun _ => none) env.cells (bindC env.kindOf binds fun _ => none) s')) E s := by
    have split : ∃ rest : Addr → Sem Env, newFunctionEnv scope globals [] binds qual func code none builtins = (alloc { cls := .type "frame", data := .dict #[] } >>= rest) ∧ ∀ L, TameP keepCls (rest L) := by
      refine ⟨_, by unfold newFunctionEnv; rfl, fun L => ?_⟩
      dsimp only
      refine TameP.bind (kc_forIn (fun a b => ?_) _ _) fun cells => TameP.bind (kc_forIn (fun a b => ?_) _ _) fun _ => trivial
      · split
        · exact TameP.bind (fun _ => trivial) fun _ => trivial
        · trivial
      · exact TameP.bind (kc_storeName hk _ _) fun _ => trivial
    obtain ⟨rest, he, ht⟩ := split
    intro Γ p hΓ
    have l0 := lib Γ p hΓ
    rw [he] at l0 ⊢
    rw [Sem.wp_bind'] at l0 ⊢
    have l1 : Sem.wp M Γ (rest s.heap.objs.size) (fun env _ s' => env = newEnv scope s.heap.objs.size globals (cellsFrom (s.heap.objs.size + 1) scope.names []) qual func code none builtins ∧ InCallC s env.locals (bindL env.kindOf binds fun _ => none) env.cells (bindC env.kindOf binds fun _ => none) s') (fun e _ s' => E e s') p { s with heap := s.heap.push { cls := .type "frame", data := .dict #[] } } := l0
    have l2 := wp_inv M Γ (U := keepCls) (Inv := ClsAt s.heap.objs.size) (fun h a f hf ha x => x.upd hf ha) (fun h o x => x.push) _ _ _ _ (s := { s with heap := s.heap.push { cls := .type "frame", data := .dict #[] } }) (ht _) ⟨by show _ < (s.heap.push _).objs.size; rw [Heap.size_push]; exact Nat.lt_succ_self _, fun o e => by rw [Heap.get?_push_size _ rfl] at e; cases e; rfl⟩ l1
    show Sem.wp M Γ (rest s.heap.objs.size) _ _ p { s with heap := s.heap.push { cls := .type "frame", data := .dict #[] } }
    exact Sem.wp_mono M Γ _ (fun _ _ _ x => x) (fun _ _ _ x => x.2) _ _ l2
  refine wpAny_mono key (fun env s' h => ?_) fun _ _ x => x
  obtain ⟨hc, rfl, x⟩ := h
  refine hQ _ rfl s' x ?_
  obtain ⟨o, _, _, e, _⟩ := x.toInCall.ns
  exact ⟨o, e, hc.2 o e⟩
end Mine
end

section
set_option Elab.async false
namespace Mine
open PySem PySem.W PySem.Calls PyProof.Rows

/-- a def of the top: where it lies, its names, its body -/
structure FnOk (b0 : Heap) (fa : Addr) (ps : List String) (body : List IS) : Prop where
  ex : ∃ o fd stmts, b0.get? fa = some o ∧ o.data = .func fd ∧ fd.body = .stmts stmts ∧ fd.globals = mainGlobals ∧ fd.builtins = builtinsNs ∧ fd.closure = [] ∧ fd.scope.kind = .function ∧ fd.scope.isCoroutine = false ∧ fd.scope.isGenerator = false ∧
    b0.CodeRec fd.code fd.qualname ∧ (∀ s vals, vals.length = ps.length → BindsTo s fd ⟨vals, []⟩ ((ps.map nm).zip vals)) ∧ (∀ p ∈ ps, LName fd.scope p) ∧ ((cellsFrom 0 fd.scope.names []).map (·.1)).Nodup ∧ CB fd.scope stmts body
  nodup : ps.Nodup

theorem bindL_other {kd : PySem.Str → Option NameKind} {x : PySem.Str} {b : List (PySem.Str × Value)} : ∀ {m : PySem.Str → Option Value}, (∀ p ∈ b, p.1 ≠ x) → bindL kd b m x = m x := by
  induction b with
  | nil => exact fun _ => rfl
  | cons q b ih =>
    obtain ⟨n, v⟩ := q
    intro m h
    unfold bindL
    rw [ih fun p hp => h p (.tail _ hp)]
    have : x ≠ n := fun z => h (n, v) (.head _) z.symm
    split
    · simp only [if_neg this]
    · rfl
theorem bindC_other {kd : PySem.Str → Option NameKind} {x : PySem.Str} {b : List (PySem.Str × Value)} : ∀ {m : PySem.Str → Option Value}, (∀ p ∈ b, p.1 ≠ x) → bindC kd b m x = m x := by
  induction b with
  | nil => exact fun _ => rfl
  | cons q b ih =>
    obtain ⟨n, v⟩ := q
    intro m h
    unfold bindC
    rw [ih fun p hp => h p (.tail _ hp)]
    have : x ≠ n := fun z => h (n, v) (.head _) z.symm
    split
    · rfl
    · simp only [if_neg this]
theorem zip_ne {x : String} {ps : List String} {vals : List Value} (h : x ∉ ps) : ∀ p ∈ (ps.map nm).zip vals, p.1 ≠ nm x := fun p hp e => by
  have := (List.of_mem_zip hp).1
  obtain ⟨y, hy, hye⟩ := List.mem_map.mp this
  exact h (nm_inj (hye.trans e) ▸ hy)
theorem bindL_at {kd : PySem.Str → Option NameKind} {x : String} {v : Value} {ps : List String} (hk : kd (nm x) = some .local) : ∀ {vals : List Value} {m : PySem.Str → Option Value}, ps.Nodup → (ps.zip vals).lookup x = some v → bindL kd ((ps.map nm).zip vals) m (nm x) = some v := by
  induction ps with
  | nil => intro vals m _ h; cases h
  | cons p ps ih =>
    intro vals m hn h
    cases vals with
    | nil => cases h
    | cons u vals =>
    rw [List.nodup_cons] at hn
    simp only [List.map_cons, List.zip_cons_cons]
    unfold bindL
    by_cases e : x = p
    · subst e
      rw [List.zip_cons_cons, List.lookup_cons] at h
      simp only [beq_self_eq_true] at h
      rw [bindL_other (zip_ne hn.1), if_pos hk]
      simp only [if_true]; exact h
    · rw [List.zip_cons_cons, List.lookup_cons, beq_eq_false_iff_ne.mpr e] at h
      exact ih hn.2 h
theorem bindC_at {kd : PySem.Str → Option NameKind} {x : String} {v : Value} {ps : List String} (hk : kd (nm x) = some .cell) : ∀ {vals : List Value} {m : PySem.Str → Option Value}, ps.Nodup → (ps.zip vals).lookup x = some v → bindC kd ((ps.map nm).zip vals) m (nm x) = some v := by
  induction ps with
  | nil => intro vals m _ h; cases h
  | cons p ps ih =>
    intro vals m hn h
    cases vals with
    | nil => cases h
    | cons u vals =>
    rw [List.nodup_cons] at hn
    simp only [List.map_cons, List.zip_cons_cons]
    unfold bindC
    by_cases e : x = p
    · subst e
      rw [List.zip_cons_cons, List.lookup_cons] at h
      simp only [beq_self_eq_true] at h
      rw [bindC_other (zip_ne hn.1), if_neg (by rw [hk]; decide)]
      simp only [if_true]; exact h
    · rw [List.zip_cons_cons, List.lookup_cons, beq_eq_false_iff_ne.mpr e] at h
      exact ih hn.2 h

noncomputable def RetR (P : Program × World) (E : List Addr) (h : Heap) : Fl → Value → Prop
  | .ret d f, v => R P (fun a => f = true → a ∉ E) h v d
  | _, v => v = .none
section
variable {prog : Program} {w : World} {b0 : Heap} {mg mb : PySem.Str → Option Value} {consts : String → Option V} {r : Rec} {n : Nat} {c : Cx} {E : List Addr} {φ : Frm} {Ω : List (String × Addr)} {s : Shared} {Q : Value → Shared → Prop} {Ex : Value → Shared → Prop}

/-- the call of a def: its frame stands, its body is to be run -/
theorem call_frame {fa : Addr} {ps : List String} {vals : List Value} {E' : List Addr} {φ₀ : Frm} {Ω₀ : List (String × Addr)} {o : Obj} {fd : FuncData} {stmts : List Stmt} (S : Stat (prog, w) b0 mg mb consts) (ho : b0.get? fa = some o) (hd : o.data = .func fd) (hb : fd.body = .stmts stmts) (hg : fd.globals = mainGlobals) (hbi : fd.builtins = builtinsNs) (hcl : fd.closure = []) (hk : fd.scope.kind = .function) (hco : fd.scope.isCoroutine = false) (hgen : fd.scope.isGenerator = false)
    (hcd : b0.CodeRec fd.code fd.qualname) (hbind : ∀ s vals, vals.length = ps.length → BindsTo s fd ⟨vals, []⟩ ((ps.map nm).zip vals)) (hps : ∀ p ∈ ps, LName fd.scope p) (hcn : ((cellsFrom 0 fd.scope.names []).map (·.1)).Nodup) (hnd : ps.Nodup) (ok : c.Ok (n + 1)) (st : Ground b0 c s.heap)
    (hlen : vals.length = ps.length) (hE : ∀ a ∈ E', (∃ o, s.heap.get? a = some o) ∧ b0.get? a = none) (hO : ∀ a ∈ Ω₀.map (·.2), (∃ o, s.heap.get? a = some o) ∧ b0.get? a = none) (hOn : (Ω₀.map (·.2)).Nodup)
    (hslot : ∀ h₀ own, (∀ b o, s.heap.get? b = some o → h₀.get? b = some o) → (∀ a ∈ own, s.heap.get? a = none) → ∀ x sl, φ₀.lookup x = some sl → ∃ v, (ps.zip vals).lookup x = some v ∧ SlotAt (prog, w) E' (own ++ Ω₀.map (·.2)) Ω₀ h₀ (some v) x sl)
    (hdom : ∀ x, φ₀.lookup x = none → Ω₀.lookup x = none) (hacc : ∀ x ds, φ₀.lookup x ≠ some (.acc ds)) (hap : ∀ b ∈ c.fs, b ∉ Ω₀.map (·.2))
    (H : ∀ (env : Env) h₀ tk₀, Cx.Ok ⟨env, c.A.deeper env, env :: c.stk⟩ n → env.frame = some env.locals → env.scope = fd.scope → env.code = fd.code → (∀ a ∈ (Cx.own ⟨env, c.A.deeper env, env :: c.stk⟩), s.heap.get? a = none) → (∀ b o, s.heap.get? b = some o → h₀.get? b = some o) → StS (prog, w) b0 ⟨env, c.A.deeper env, env :: c.stk⟩ E' φ₀ Ω₀ h₀ →
      (∀ {h' : Heap} {Y : List Addr}, (∀ a ∈ Y, a ∈ (Cx.own ⟨env, c.A.deeper env, env :: c.stk⟩) ∨ a ∈ Ω₀.map (·.2)) → Kp (Cx.fs ⟨env, c.A.deeper env, env :: c.stk⟩) Y h₀ h' → Kp c.fs (Ω₀.map (·.2)) s.heap h') →
      wpAny (model prog w) (c.A.deeper env) (execs stmts env) (fun f s' => Q (match f with | .ret v => v | _ => .none) s') (fun e s' => wpAny (model prog w) (c.A.deeper env) (leaving env e) (fun _ s'' => Ex e s'') Ex s') { s with heap := h₀, toks := tk₀ }) :
    wpAny (model prog w) c.A (call (.ref fa) vals []) Q Ex s := by
  refine wpAny_call (codeAny_call_function (by have := ok.depth; omega) (st.stay _ _ ho) hd hco hgen hb (hcd.keeps st.stay) (hbind s vals hlen _ _ _ _ ?_))
  rw [hcl]
  have hkind : ∀ x ∈ (ps.map nm).zip vals, fd.scope.names.lookup x.1 = some .local ∨ (fd.scope.names.lookup x.1 = some .cell ∧ ((cellsFrom (s.heap.objs.size + 1) fd.scope.names []).lookup x.1).isSome = true) := fun x hx => by
    obtain ⟨y, hy, hye⟩ := List.mem_map.mp (List.of_mem_zip hx).1
    rw [← hye]
    rcases (hps y hy).1 with q | q
    · exact .inl q
    · exact .inr ⟨q, cellsFrom_some _ _ _ (.inl q)⟩
  refine new_env hk hkind fun env he s' x hcls => ?_
  have hscope : env.scope = fd.scope := by rw [he]; rfl
  have hloc : env.locals = s.heap.objs.size := by rw [he]; rfl
  have hcells : env.cells = cellsFrom (s.heap.objs.size + 1) fd.scope.names [] := by rw [he]; rfl
  have hframe : env.frame = some env.locals := by rw [he]; rfl
  have hgl : env.globals = mainGlobals := by rw [he]; exact hg
  have hbl : env.builtins = builtinsNs := by rw [he]; exact hbi
  have hcode : env.code = fd.code := by rw [he]; rfl
  have hko : env.kindOf = fun y => fd.scope.names.lookup y := by rw [he]; rfl
  clear he
  obtain ⟨h₀, tk₀, rfl⟩ := x.toInCall.same
  have keep : ∀ b o, s.heap.get? b = some o → h₀.get? b = some o := x.toInCall.keep
  refine ⟨(S.nolimit.keeps st.stay).keeps keep, codeAny_func ?_⟩
  have hown : ∀ a ∈ (Cx.own ⟨env, c.A.deeper env, env :: c.stk⟩), s.heap.get? a = none := fun a ha => by
    rcases List.mem_cons.mp ha with rfl | ha
    · exact Heap.get?_none_of_le (by rw [hloc]; exact Nat.le_refl _)
    · obtain ⟨p, hp, rfl⟩ := List.mem_map.mp ha
      have := x.above p.1 p.2 hp
      exact Heap.get?_none_of_le (by rw [hloc] at this; exact Nat.le_of_lt this)
  have hcnd : (env.cells.map (·.1)).Nodup := by
    rw [hcells, cellsFrom_names _ _ 0 [] [] rfl]; exact hcn
  have hok : Cx.Ok ⟨env, c.A.deeper env, env :: c.stk⟩ n := by
    refine ⟨by rw [hscope]; exact hk, hgl, hbl, Around.frames_deeper ok.frames, ok.handled, ?_, ?_, fun y hy => ?_⟩
    · have := ok.depth; show c.A.depth + 1 + n < _; omega
    · have := ok.units; show c.A.units + 3 + 8 * n + 200 < _; omega
    · have := cellsFrom_some fd.scope.names (s.heap.objs.size + 1) [] (.inl (by rw [← hscope]; exact hy))
      rw [← hcells] at this
      exact Option.isSome_iff_exists.mp this
  have hfs : Cx.fs ⟨env, c.A.deeper env, env :: c.stk⟩ = env.locals :: c.fs := by
    show List.filterMap _ (env :: c.stk) = _
    rw [List.filterMap_cons, hframe]; rfl
  have none_b0 : ∀ a, s.heap.get? a = none → b0.get? a = none := fun a ha => by
    cases e : b0.get? a with
    | none => rfl
    | some ob => rw [st.stay _ _ e] at ha; cases ha
  have hOown : ∀ a ∈ (Cx.own ⟨env, c.A.deeper env, env :: c.stk⟩), a ∉ Ω₀.map (·.2) := fun a ha hb => by
    obtain ⟨⟨ob, e⟩, _⟩ := hO a hb
    rw [hown a ha] at e; cases e
  have hst : StS (prog, w) b0 ⟨env, c.A.deeper env, env :: c.stk⟩ E' φ₀ Ω₀ h₀ := by
    refine ⟨⟨fun b ob e => keep _ _ (st.stay _ _ e), ⟨?_, ?_, ?_⟩, ?_, ⟨_, _, x.toInCall.ns, x.cell, fun y sl e hl => ?_⟩, fun a ha => ?_, fun a ha => ?_⟩, ?_, hdom, fun y ds a e => absurd e (hacc y ds), ?_⟩
    · rw [hscope, hk]; decide
    · obtain ⟨ob, arr, _, e, e', _⟩ := x.toInCall.ns
      exact ⟨env.locals, ob, hframe, none_b0 _ (hown _ (.head _)), e, fun vs z => by rw [e'] at z; cases z⟩
    · exact st.ff.of_keeps fun b ob e _ => ⟨ob, keep _ _ e, rfl⟩
    · rw [hfs]
      intro b hb
      rcases List.mem_cons.mp hb with rfl | hb
      · exact hcls
      · obtain ⟨ob, e, hc⟩ := st.fc b hb
        exact ⟨ob, keep _ _ e, hc⟩
    · obtain ⟨v, hv, hsl⟩ := hslot h₀ _ keep hown y sl e
      have hname : atName ⟨env, c.A.deeper env, env :: c.stk⟩ (bindL env.kindOf ((ps.map nm).zip vals) fun _ => none) (bindC env.kindOf ((ps.map nm).zip vals) fun _ => none) (nm y) = some v := by
        unfold atName
        have hl' : env.kindOf (nm y) = some .local ∨ env.kindOf (nm y) = some .cell := by
          rw [hko]; dsimp only; rw [← hscope]; exact hl.1
        rcases hl' with q | q
        · dsimp only; rw [q]; exact bindL_at q hnd hv
        · dsimp only; rw [q]; exact bindC_at q hnd hv
      rw [hname]; exact hsl
    · rcases ha with ha | ha
      · obtain ⟨⟨ob, e⟩, _⟩ := hE a ha
        exact ⟨ob, keep _ _ e⟩
      · rcases List.mem_append.mp ha with ha | ha
        · rcases List.mem_cons.mp ha with rfl | ha
          · obtain ⟨ob, e, _⟩ := hcls; exact ⟨ob, e⟩
          · obtain ⟨p, hp, rfl⟩ := List.mem_map.mp ha
            obtain ⟨ob, e, _⟩ := x.cell p.1 p.2 (lookup_of_mem_nodup hcnd hp)
            exact ⟨ob, e⟩
        · obtain ⟨⟨ob, e⟩, _⟩ := hO a ha
          exact ⟨ob, keep _ _ e⟩
    · rcases ha with ha | ha
      · exact (hE a ha).2
      · rcases List.mem_append.mp ha with ha | ha
        · exact none_b0 _ (hown a ha)
        · exact (hO a ha).2
    · refine List.nodup_append.mpr ⟨List.nodup_cons.mpr ⟨fun ha => ?_, ?_⟩, hOn, fun a ha b hb e => hOown a ha (e ▸ hb)⟩
      · obtain ⟨p, hp, e⟩ := List.mem_map.mp ha
        exact Nat.ne_of_gt (x.above p.1 p.2 hp) e
      · exact List.pairwise_map.mpr x.apart
    · intro b hb hne hy
      rw [hfs] at hb
      rcases List.mem_cons.mp hb with rfl | hb
      · exact hne rfl
      · rcases List.mem_append.mp hy with hy | hy
        · obtain ⟨ob, e, _⟩ := st.fc b hb
          rw [hown b hy] at e; cases e
        · exact hap b hb hy
  have hkp : ∀ {h' : Heap} {Y : List Addr}, (∀ a ∈ Y, a ∈ (Cx.own ⟨env, c.A.deeper env, env :: c.stk⟩) ∨ a ∈ Ω₀.map (·.2)) → Kp (Cx.fs ⟨env, c.A.deeper env, env :: c.stk⟩) Y h₀ h' → Kp c.fs (Ω₀.map (·.2)) s.heap h' := fun hY k b ob e hb => by
    have hbo : b ∉ (Cx.own ⟨env, c.A.deeper env, env :: c.stk⟩) := fun z => by rw [hown b z] at e; cases e
    rcases k b ob (keep _ _ e) (fun z => (hY b z).elim hbo hb) with q | ⟨q1, q2, q3, q4⟩
    · exact .inl q
    · rw [hfs] at q1
      rcases List.mem_cons.mp q1 with rfl | q1
      · exact absurd (List.mem_cons_self) hbo
      · exact .inr ⟨q1, q2, q3, q4⟩
  exact H env h₀ tk₀ hok hframe hscope hcode hown keep hst hkp
/-- the call of a def whose arguments stand ready -/
theorem call_core {fa : Addr} {ps : List String} {body : List IS} {vals : List Value} {E' : List Addr} {φ₀ : Frm} {Ω₀ : List (String × Addr)} (S : Stat (prog, w) b0 mg mb consts) (F : FnOk b0 fa ps body) (hX : SEx prog w b0 r n) (ok : c.Ok (n + 1)) (st : Ground b0 c s.heap)
    (hlen : vals.length = ps.length) (hE : ∀ a ∈ E', (∃ o, s.heap.get? a = some o) ∧ b0.get? a = none) (hO : ∀ a ∈ Ω₀.map (·.2), (∃ o, s.heap.get? a = some o) ∧ b0.get? a = none) (hOn : (Ω₀.map (·.2)).Nodup)
    (hslot : ∀ h₀ own, (∀ b o, s.heap.get? b = some o → h₀.get? b = some o) → (∀ a ∈ own, s.heap.get? a = none) → ∀ x sl, φ₀.lookup x = some sl → ∃ v, (ps.zip vals).lookup x = some v ∧ SlotAt (prog, w) E' (own ++ Ω₀.map (·.2)) Ω₀ h₀ (some v) x sl)
    (hdom : ∀ x, φ₀.lookup x = none → Ω₀.lookup x = none) (hacc : ∀ x ds, φ₀.lookup x ≠ some (.acc ds)) (hap : ∀ b ∈ c.fs, b ∉ Ω₀.map (·.2))
    (H : G (blk r φ₀ body) (fun p => ∀ v h' tk, RetR (prog, w) E' h' p.1 v → Kp c.fs (Ω₀.map (·.2)) s.heap h' →
        (∃ c' Ω', (∀ q ∈ ps, LName c'.env.scope q) ∧ (∀ x a, Ω₀.lookup x = some a → Ω'.lookup x = some a) ∧ (∀ a ∈ c'.own, s.heap.get? a = none) ∧ StS (prog, w) b0 c' E' p.2 Ω' h') → Q v { s with heap := h', toks := tk })
      (fun m => Ω₀ = [] ∧ XPost c s Ex m)) : wpAny (model prog w) c.A (call (.ref fa) vals []) Q Ex s := by
  obtain ⟨⟨o, fd, stmts, ho, hd, hb, hg, hbi, hcl, hk, hco, hgen, hcd, hbind, hps, hcn, hCB⟩, hnd⟩ := F
  refine call_frame S ho hd hb hg hbi hcl hk hco hgen hcd hbind hps hcn hnd ok st hlen hE hO hOn hslot hdom hacc hap fun env h₀ tk₀ hok hframe hscope _ hown keep hst hkp => ?_
  refine blk_sound (c := ⟨env, c.A.deeper env, env :: c.stk⟩) (s := { s with heap := h₀, toks := tk₀ }) hX hok ⟨⟨c.stk, rfl⟩, hframe⟩ ⟨PassesOwn.leaving, fun hd => PassesOwnAt.leaving⟩ (by show CB env.scope stmts body; rw [hscope]; exact hCB) hst (H.mono (fun p _ Hp fl h' tk Ω' hfl k g st' => ?_) fun m _ X => ?_)
  · refine Hp _ h' tk ?_ (hkp (fun a ha => List.mem_append.mp ha) k) ⟨_, Ω', fun q hq => by show LName env.scope q; rw [hscope]; exact hps q hq, g.1, hown, st'⟩
    cases p with
    | mk f φ' =>
      cases f <;> cases fl <;> first | exact hfl.elim | exact hfl | rfl
  · obtain ⟨rfl, X⟩ := X
    intro h₁ y h' tk k gr lit
    exact leave_sound (c := ⟨env, c.A.deeper env, env :: c.stk⟩) (s := s) (outer := c.stk) (hc := s.heap) (Around.frames_deeper ok.frames) rfl hframe gr (hkp (fun a ha => List.mem_append.mp ha) k) (hown _ (.head _)) lit fun h'' fl => X y h'' tk fl
end
end Mine
end

section
set_option Elab.async false
namespace Mine
open PySem PySem.W PySem.Calls PyProof.Rows

section
variable (prog : Program) (w : World) (b0 : Heap) (mg : PySem.Str → Option Value)
noncomputable def SFn (r : Rec) (n : Nat) : Prop := ∀ (c : Cx) (E : List Addr) (φ : Frm) (Ω : List (String × Addr)) (s : Shared) (f : String) (fa : Addr) (us : List (V × Bool)) (vals : List Value) (Q : Value → Shared → Prop) (Ex : Value → Shared → Prop),
  mg (nm f) = some (.ref fa) → c.Ok n → St (prog, w) b0 c E φ Ω s.heap → RU (prog, w) (fun a => a ∉ E ∧ a ∉ c.Y Ω) s.heap vals us → G (r.fn f us) (EvPost (prog, w) c E Ω s Q) (XPost c s Ex) → wpAny (model prog w) c.A (call (.ref fa) vals []) Q Ex s
noncomputable def FmPost (c : Cx) (E : List Addr) (Ω : List (String × Addr)) (s : Shared) (a : Addr) (Q : Value → Shared → Prop) (q : (V × Bool) × List (PySem.Str × V)) : Prop :=
  ∀ v h' tk, Kp c.fs [a] s.heap h' → TabAt' (prog, w) (fun b => b ∉ E ∧ b ∉ c.Y Ω) h' a q.2 → R (prog, w) (fun b => q.1.2 = true → b ∉ E ∧ b ∉ c.Y Ω) h' v q.1.1 → Q v { s with heap := h', toks := tk }
noncomputable def SFm (r : Rec) (n : Nat) : Prop := ∀ (c : Cx) (E : List Addr) (φ : Frm) (Ω : List (String × Addr)) (s : Shared) (f t : String) (fa a : Addr) (kvs : List (PySem.Str × V)) (us : List (V × Bool)) (ds : List V) (vals : List Value) (X : Msg → Prop) (Q : Value → Shared → Prop) (Ex : Value → Shared → Prop),
  mg (nm f) = some (.ref fa) → c.Ok n → StS (prog, w) b0 c E φ Ω s.heap → Ω.lookup t = some a → TabAt' (prog, w) (fun b => b ∉ E ∧ b ∉ c.Y Ω) s.heap a kvs → RU (prog, w) (fun a => a ∉ E ∧ a ∉ c.Y Ω) s.heap vals us → fzs us = .ok ds →
  G (r.fm f kvs us) (FmPost prog w c E Ω s a Q) X → wpAny (model prog w) c.A (call (.ref fa) (.ref a :: vals) []) Q Ex s
noncomputable def SHas (r : Rec) : Prop := ∀ f, r.has f = true → ∃ fa o fd, mg (nm f) = some (.ref fa) ∧ b0.get? fa = some o ∧ o.data = .func fd
noncomputable def TblOk (tbl : Tbl) : Prop := ∀ f ps body, tbl f = some (ps, body) → ∃ fa, mg (nm f) = some (.ref fa) ∧ FnOk b0 fa ps body
end

theorem zip_slot {P : Program × World} {okk : Addr → Prop} {h : Heap} {x : String} {sl : Slot} {ps : List String} : ∀ {vals : List Value} {us : List (V × Bool)}, RU P okk h vals us → (ps.zip (us.map fun u => Slot.val u.1 u.2)).lookup x = some sl →
    ∃ v u, (ps.zip vals).lookup x = some v ∧ sl = .val u.1 u.2 ∧ u ∈ us ∧ R P (fun a => u.2 = true → okk a) h v u.1 := by
  induction ps with
  | nil => intro vals us _ hl; cases hl
  | cons p ps ih =>
    intro vals us ru hl
    cases ru with
    | nil => cases hl
    | cons hr ru =>
    rename_i v _ u _
    simp only [List.map_cons, List.zip_cons_cons, List.lookup_cons] at hl ⊢
    by_cases e : x = p
    · subst e
      simp only [beq_self_eq_true] at hl ⊢
      cases hl
      exact ⟨v, u, rfl, rfl, .head _, hr⟩
    · rw [beq_eq_false_iff_ne.mpr e] at hl ⊢
      obtain ⟨v', u', h1, h2, h3, h4⟩ := ih ru hl
      exact ⟨v', u', h1, h2, .tail _ h3, h4⟩
theorem zip_val {x : String} {sl : Slot} {ps : List String} {us : List (V × Bool)} (h : (ps.zip (us.map fun u => Slot.val u.1 u.2)).lookup x = some sl) : ∃ d f, sl = .val d f := by
  induction ps generalizing us with
  | nil => simp at h
  | cons p ps ih =>
    cases us with
    | nil => simp at h
    | cons u us =>
      simp only [List.map_cons, List.zip_cons_cons, List.lookup_cons] at h
      by_cases e : x = p
      · subst e; simp only [beq_self_eq_true] at h; cases h; exact ⟨_, _, rfl⟩
      · rw [beq_eq_false_iff_ne.mpr e] at h; exact ih h
theorem fzs_mem {us : List (V × Bool)} {ds : List V} (h : fzs us = .ok ds) : ∀ u ∈ us, (u.2 || u.1.atom) = true := by
  induction us generalizing ds with
  | nil => intro u hu; cases hu
  | cons u us ih =>
    dsimp only [fzs] at h
    cases h1 : fzV u with
    | ok d =>
      rw [h1] at h
      dsimp only [Res.bind] at h
      cases h2 : fzs us with
      | ok ds' =>
        intro u' hu
        rcases List.mem_cons.mp hu with rfl | hu
        · unfold fzV at h1; split at h1
          · assumption
          · cases h1
        · exact ih h2 u' hu
      | exc m => rw [h2] at h; cases h
      | bad => rw [h2] at h; cases h
    | exc m => rw [h1] at h; cases h
    | bad => rw [h1] at h; cases h
theorem fz_atom {P : Program × World} {okk ok' : Addr → Prop} {h h' : Heap} {v : Value} {u : V × Bool} (hu : (u.2 || u.1.atom) = true) (r : R P (fun a => u.2 = true → okk a) h v u.1) (k : UpAt okk h h') (hk : ∀ b o, okk b → h.get? b = some o → ok' b) : R P ok' h' v u.1 := by
  rcases Bool.or_eq_true_iff.mp hu with e | e
  · exact r.mono (fun b o hb => k b o (hb e)) fun b o hb => hk b o (hb e)
  · exact r.atom_any e

section
variable {prog : Program} {w : World} {b0 : Heap} {mg mb : PySem.Str → Option Value} {consts : String → Option V} {r : Rec} {n : Nat} {c : Cx} {E : List Addr} {φ : Frm} {Ω : List (String × Addr)} {s : Shared} {Ex : Value → Shared → Prop} {tbl : Tbl}

theorem fn_sound (S : Stat (prog, w) b0 mg mb consts) (hT : TblOk b0 mg tbl) (hX : SEx prog w b0 r n) {r' : Rec} (hr : r'.fn = fnI tbl r) : SFn prog w b0 mg r' (n + 1) := by
  intro c E φ Ω s f fa us vals Q Ex hm ok st ru H
  rw [hr] at H
  unfold fnI at H
  cases ht : tbl f with
  | none => rw [ht] at H; exact H.elim
  | some q =>
    obtain ⟨ps, body⟩ := q
    rw [ht] at H
    obtain ⟨fa', e, F⟩ := hT f ps body ht
    rw [hm] at e; cases e
    rcases G.ite H with ⟨hlen, H⟩ | ⟨_, H⟩
    · refine call_core (E' := E ++ c.Y Ω) (φ₀ := ps.zip (us.map fun u => Slot.val u.1 u.2)) (Ω₀ := []) S F hX ok st.ground (by rw [ru.length, hlen]) (fun a ha => ⟨st.alive a (List.mem_append.mp ha), st.off a (List.mem_append.mp ha)⟩) (fun a ha => nomatch ha) List.nodup_nil ?_ (fun _ _ => rfl) (fun x ds z => by obtain ⟨d, f, e⟩ := zip_val z; cases e) (fun _ _ z => nomatch z) (H.bind.mono (fun p _ Hp v h' tk hv k _ => ?_) fun m _ X => ⟨rfl, X⟩)
      · intro h₀ own keep hown x sl hsl
        obtain ⟨v, u, h1, rfl, _, h4⟩ := zip_slot ru hsl
        refine ⟨v, h1, v, rfl, h4.mono (fun b o _ e _ => keep b o e) fun b o hb e => ⟨fun hf z => ?_, fun z => ?_⟩⟩
        · rcases List.mem_append.mp z with z | z
          · exact (hb hf).1 z
          · exact (hb hf).2 z
        · rcases List.mem_append.mp z with z | z
          · rw [hown b z] at e; cases e
          · cases z
      · obtain ⟨fl, φ'⟩ := p
        cases fl with
        | next =>
          have hv : v = .none := hv
          subst hv
          exact (show EvPost (prog, w) c E Ω s Q (.none, true) from Hp) _ _ _ k .none
        | cont => exact (show False from Hp).elim
        | brk => exact (show False from Hp).elim
        | ret d f =>
          have hv : R (prog, w) (fun a => f = true → a ∉ E ++ c.Y Ω) h' v d := hv
          exact (show EvPost (prog, w) c E Ω s Q (d, f) from Hp) _ _ _ k (hv.weak fun b hb hf => ⟨fun z => hb hf (List.mem_append_left _ z), fun z => hb hf (List.mem_append_right _ z)⟩)
    · exact H.elim
theorem fm_sound (S : Stat (prog, w) b0 mg mb consts) (hT : TblOk b0 mg tbl) (hX : SEx prog w b0 r n) {r' : Rec} (hr : r'.fm = fmI tbl r) : SFm prog w b0 mg r' (n + 1) := by
  intro c E φ Ω s f t fa a kvs us ds vals X Q Ex hm ok st ha htab ru hfz H
  have haY : a ∈ c.Y Ω := omega_Y ha
  have hal := st.st.alive a (.inr haY)
  rw [hr] at H
  unfold fmI at H
  cases ht : tbl f with
  | none => rw [ht] at H; exact H.elim
  | some q =>
    obtain ⟨ps, body⟩ := q
    rw [ht] at H
    cases ps with
    | nil => exact (show False from H).elim
    | cons p0 ps =>
      obtain ⟨fa', e, F⟩ := hT f _ body ht
      rw [hm] at e; cases e
      have hnd := List.nodup_cons.mp F.nodup
      rcases G.ite H with ⟨hlen, H⟩ | ⟨_, H⟩
      · refine call_core (E' := E ++ c.Y Ω) (φ₀ := (p0, .tab kvs) :: ps.zip (us.map fun u => Slot.val u.1 u.2)) (Ω₀ := [(p0, a)]) S F hX ok st.st.ground (by rw [List.length_cons, List.length_cons, ru.length, hlen]) (fun b hb => ⟨st.st.alive b (List.mem_append.mp hb), st.st.off b (List.mem_append.mp hb)⟩)
          (fun b hb => by cases List.mem_singleton.mp hb; exact ⟨hal, st.st.off a (.inr haY)⟩) (by simp) ?_ (fun x hx => ?_) (fun x ds z => ?_) (fun b hb z => ?_) ?_
        · intro h₀ own keep hown x sl hsl
          have notY : ∀ b, b ∉ E ∧ b ∉ c.Y Ω → (∃ o, s.heap.get? b = some o) → b ∉ E ++ c.Y Ω ∧ b ∉ own ++ [(p0, a)].map (·.2) := fun b hb ⟨o, e⟩ => ⟨fun z => (List.mem_append.mp z).elim hb.1 hb.2, fun z => by
            rcases List.mem_append.mp z with z | z
            · rw [hown b z] at e; cases e
            · cases List.mem_singleton.mp z; exact hb.2 haY⟩
          rw [List.lookup_cons] at hsl
          by_cases e : x = p0
          · subst e
            simp only [beq_self_eq_true] at hsl
            cases hsl
            obtain ⟨qs, es, t1, t2, t3, t4, t5⟩ := htab
            refine ⟨.ref a, by simp [List.zip_cons_cons], a, by simp, rfl, qs, es, dict_up t1 (fun o e _ => keep a o e), t2, t3.mono (fun b o _ e _ => keep b o e) (fun b o hb e => notY b hb ⟨o, e⟩), t4, t5⟩
          · rw [beq_eq_false_iff_ne.mpr e] at hsl
            obtain ⟨v, u, h1, rfl, h3, h4⟩ := zip_slot ru hsl
            refine ⟨v, by rw [List.zip_cons_cons, List.lookup_cons, beq_eq_false_iff_ne.mpr e]; exact h1, v, rfl, fz_atom (fzs_mem hfz u h3) h4 (fun b o _ e _ => keep b o e) fun b o hb e => ⟨fun _ => (notY b hb ⟨o, e⟩).1, (notY b hb ⟨o, e⟩).2⟩⟩
        · rw [List.lookup_cons] at hx ⊢
          by_cases e : x = p0
          · subst e; simp only [beq_self_eq_true] at hx; cases hx
          · rw [beq_eq_false_iff_ne.mpr e]; rfl
        · rw [List.lookup_cons] at z
          by_cases e : x = p0
          · subst e; simp only [beq_self_eq_true] at z; cases z
          · rw [beq_eq_false_iff_ne.mpr e] at z; obtain ⟨d, f, e⟩ := zip_val z; cases e
        · cases List.mem_singleton.mp z
          by_cases e : a = c.env.locals
          · exact st.not_own ha (by rw [e]; exact .head _)
          · exact st.apart a hb e haY
        · cases hb : blk r ((p0, .tab kvs) :: ps.zip (us.map fun u => Slot.val u.1 u.2)) body with
          | bad => rw [hb] at H; exact (show False from H).elim
          | exc m => rw [hb] at H; exact (show False from H).elim
          | ok p =>
            rw [hb] at H
            intro v h' tk hv k ⟨c', Ω', hps, hgr, hown, st'⟩
            obtain ⟨fl, φ'⟩ := p
            cases hl : φ'.lookup p0 with
            | none => dsimp only at H; rw [hl] at H; exact (show False from H).elim
            | some sl =>
              dsimp only at H
              rw [hl] at H
              cases sl with
              | val => exact (show False from H).elim
              | acc => exact (show False from H).elim
              | gone => exact (show False from H).elim
              | tab kvs' =>
                obtain ⟨m, cm, _, _, h3⟩ := st'.st.loc
                obtain ⟨a', q1, q2, q3⟩ := h3 p0 _ hl (hps p0 (.head _))
                rw [hgr p0 a (by simp)] at q1; cases q1
                have q3' : TabAt' (prog, w) (fun b => b ∉ E ∧ b ∉ c.Y Ω) h' a kvs' := q3.up (fun _ e _ => e) (fun _ _ _ e _ => e) fun b hb => ⟨fun z => hb.1 (List.mem_append_left _ z), fun z => hb.1 (List.mem_append_right _ z)⟩
                cases fl with
                | next =>
                  have hv : v = .none := hv
                  subst hv
                  exact (show FmPost prog w c E Ω s a Q ((.none, true), kvs') from H) _ _ _ k q3' .none
                | cont => exact (show False from H).elim
                | brk => exact (show False from H).elim
                | ret d f =>
                  have hv : R (prog, w) (fun a => f = true → a ∉ E ++ c.Y Ω) h' v d := hv
                  exact (show FmPost prog w c E Ω s a Q ((d, f), kvs') from H) _ _ _ k q3' (hv.weak fun b hb hf => ⟨fun z => hb hf (List.mem_append_left _ z), fun z => hb hf (List.mem_append_right _ z)⟩)
      · exact H.elim
end
end Mine
end

section
set_option Elab.async false
namespace Mine
open PySem PySem.W PySem.Calls PyProof.Rows

section
variable {prog : Program} {w : World} {b0 : Heap} {mg mb : PySem.Str → Option Value} {consts : String → Option V} {r : Rec} {n : Nat} {c : Cx} {E : List Addr} {φ : Frm} {Ω : List (String × Addr)} {s : Shared} {Ex : Value → Shared → Prop}

theorem fzs_exc {us : List (V × Bool)} {m : Msg} : fzs us ≠ .exc m := by
  induction us with
  | nil => intro h; cases h
  | cons u us ih =>
    intro hfz
    dsimp only [fzs] at hfz
    unfold fzV at hfz
    split at hfz
    · dsimp only [Res.bind] at hfz
      cases h2 : fzs us with
      | ok ds' => rw [h2] at hfz; cases hfz
      | exc m' => exact ih (by rw [h2] at hfz; cases hfz; exact h2)
      | bad => rw [h2] at hfz; cases hfz
    · cases hfz
theorem back_cons {p : Pos} {e : Expr} {es : List Expr} {i : IE} (h : CE c.env.scope e i) : backTo p (starEach (e :: es) c.env) = (false, eval e c.env) :: backTo p (starEach es c.env) := by rw [h.star]; rfl
theorem ev_call {Q : Value → Shared → Prop} {f : String} {np p : Pos} {args : List Expr} {is : List IE} (S : Stat (prog, w) b0 mg mb consts) (hE : SEv prog w b0 r n) (hF : SFn prog w b0 mg r n) (hH : SHas b0 mg r) (ok : c.Ok n) (st : St (prog, w) b0 c E φ Ω s.heap) (hn : GName c.env.scope f) (ha : CEs c.env.scope args is)
    (H : G (evI consts r φ (.call f is)) (EvPost (prog, w) c E Ω s Q) (XPost c s Ex)) : wpAny (model prog w) c.A (eval (.Call (.Name (nm f) np) args [] p) c.env) Q Ex s := by
  dsimp only [evI] at H
  rcases G.ite H with ⟨q, H⟩ | ⟨_, H⟩
  · obtain ⟨fa, o, fd, hm, ho, hd⟩ := hH f q
    refine Call_ (ld_glob S ok st hn hm (callWith_function (o := o) (fd := fd) (first := []) ?_))
    have fin : ∀ us vs h₁ tk₁, Kp c.fs [] s.heap h₁ → RU (prog, w) (fun a => a ∉ E ∧ a ∉ c.Y Ω) h₁ vs us → G (r.fn f us) (EvPost (prog, w) c E Ω s Q) (XPost c s Ex) →
        (h₁.get? fa = some o ∧ o.data = .func fd) ∧ wpAny (model prog w) c.A (call (.ref fa) ([] ++ vs) []) Q Ex { s with heap := h₁, toks := tk₁ } := fun us vs h₁ tk₁ k₁ ru Hus =>
      ⟨⟨(st.kp k₁).stay _ _ ho, hd⟩, hF c E φ Ω { s with heap := h₁, toks := tk₁ } f fa us vs Q Ex hm ok (st.kp k₁) ru (Hus.mono (fun _ _ Hq => Hq.step k₁) fun _ _ X => X.step k₁)⟩
    cases ha with
    | nil => exact evalArgs_kw_nil rfl (wpAny_evalAll_nil (fin [] [] s.heap s.toks .refl .nil H))
    | cons a0 as =>
      rw [back_cons a0]
      refine evalArgs_plain ?_
      rw [← back_cons a0]
      exact ev_args hE ok (.cons a0 as) st (H.bind.mono (fun us _ Hus vs h₁ tk₁ k₁ ru => fin us vs h₁ tk₁ k₁ ru Hus) fun _ _ X => X)
  · exact H.elim

theorem ex_appendMut {Q : Flow → Shared → Prop} {x f t : String} {xp ap fp tp ip cp p : Pos} {args : List Expr} {es : List IE} (S : Stat (prog, w) b0 mg mb consts) (hE : SEv prog w b0 r n) (hF : SFm prog w b0 mg r n) (hH : SHas b0 mg r) (ok : c.Ok n) (st : StS (prog, w) b0 c E φ Ω s.heap) (hn : LName c.env.scope x) (hl : (ap.endLine == cp.line) = true) (hf : GName c.env.scope f) (ht : LName c.env.scope t) (ha : CEs c.env.scope args es) 
    (H : G (exI r φ (.appendMut x f t es)) (ExPost (prog, w) b0 c E Ω s Q) (XPostS b0 c Ω s Ex)) : wpAny (model prog w) c.A (exec (.Expr (.Call (.Attribute (.Name (nm x) xp) (nm "append") ap) [.Call (.Name (nm f) fp) (.Name (nm t) tp :: args) [] ip] [] cp) p) c.env) Q Ex s := by
  dsimp only [exI] at H
  obtain ⟨ds, hx, H⟩ := G.onAcc H
  obtain ⟨kvs, htl, H⟩ := G.onTab H
  obtain ⟨⟨hxt, hhas⟩, H⟩ := H.need
  obtain ⟨fa, o, fd, hm, ho, hd⟩ := hH f hhas
  obtain ⟨m, cm, h1, h2, h3⟩ := st.st.loc
  obtain ⟨a, vs, q1, q2, q4, q5⟩ := h3 x _ hx hn
  obtain ⟨at', u1, u2, u3⟩ := h3 t _ htl ht
  refine wpAny_Expr_any (wpAny_Call_method (T := "list") (id := "list.append") rfl rfl hl F.plainAttrs_list F.slot_list_append F.type_list_append ?_) (not_interactive ok)
  refine ld_at ok hn h1 h2 q2 ⟨q4.list.isList.typeIs, fun b e => (by cases e; obtain ⟨k, e'⟩ := q4.1; exact ⟨_, e', rfl⟩), ?_⟩
  refine callWith_method1 ?_ rfl rfl
  refine args_cons ?_ rfl
  refine Call_ (ld_glob S ok st.st hf hm (callWith_function (o := o) (fd := fd) (first := []) ?_))
  rw [back_cons (CE.var ht)]
  refine evalArgs_plain (spliced_cons (ld_at ok ht h1 h2 u2 ?_))
  refine ev_args hE ok ha st.st (H.bind.mono (fun us _ Hus vals h₁ tk₁ k₁ ru => ⟨⟨(st.st.kp k₁).stay _ _ ho, hd⟩, ?_⟩) fun _ _ X => X.now st.st)
  cases hfz : fzs us with
  | bad => rw [hfz] at Hus; exact Hus.elim
  | exc m' => exact absurd hfz fzs_exc
  | ok dz =>
    rw [hfz] at Hus
    have st₁ := st.kp k₁
    have u3' : TabAt' (prog, w) (fun b => b ∉ E ∧ b ∉ c.Y Ω) h₁ at' kvs := u3.up (fun o e hc => k₁.same e (by simp) hc) (k₁.up fun _ _ => by simp) fun _ x => x
    refine hF c E φ Ω { s with heap := h₁, toks := tk₁ } f t fa at' kvs us dz vals _ _ _ hm ok st₁ u1 u3' ru hfz ((G.bind (res := r.fm f kvs us) Hus).mono (fun q _ Hq v h₂ tk₂ k₂ q3 rv => ?_) fun _ _ X => X)
    refine args_nil ?_
    obtain ⟨rv, Hq⟩ := Hq.bind.fz rv
    obtain ⟨hlt, Hq⟩ := Hq.need
    have st₂ : StS (prog, w) b0 c E (upd t (.tab q.2) φ) Ω h₂ := st₁.mutK ht htl (fun mv q => by obtain ⟨b, q1, q2, _⟩ := q; rw [u1] at q1; cases q1; exact q2) u1 k₂ (let ⟨_, _, ⟨o, _, _, e, _⟩, _⟩ := q3; ⟨o, e⟩) ⟨at', u1, rfl, q3⟩ fun ds e => nomatch e
    have hx' : (upd t (.tab q.2) φ).lookup x = some (.acc ds) := by rw [upd_lookup, if_neg hxt]; exact hx
    refine append_sound (s := { s with heap := h₂, toks := tk₂ }) st₂ hn hx' q1 hlt rv fun h' k st' => ?_
    refine Hq .next h' _ Ω trivial ?_ .refl st'
    exact ((k₁.weak fun _ z => nomatch z).trans (k₂.weak fun b z => by cases List.mem_singleton.mp z; exact omega_Y u1)).trans k
end
end Mine
end

section
set_option Elab.async false
namespace Mine
open PySem PySem.W PySem.Calls PyProof.Rows

section
variable {prog : Program} {w : World} {b0 : Heap} {c : Cx} {s : Shared} {Ex : Value → Shared → Prop} {A : Around}

/-- the frame notes the exception -/
theorem lit_note {h₁ h' : Heap} {x : Addr} {m : Msg} {tk : Nat} {QU : Unit → Shared → Prop} (hA : A.frames = some c.stk) (fn : c.Fn) (g : Ground b0 c h₁) (lit : Lit c.stk h₁ x m h')
    (H : ∀ h'', HeldX c.stk h₁ x m h'' → QU () { s with heap := h'', toks := tk }) : wpAny (model prog w) A (noteFrame (.ref x) c.env) QU Ex { s with heap := h', toks := tk } := by
  obtain ⟨outer, hs⟩ := fn.head
  have hf := fn.frame
  have hhd : (c.stk.head?.bind (·.frame)) = some c.env.locals := by rw [hs]; exact hf
  rcases lit with f | r | hx
  · obtain ⟨t, tk', fl, ht, hn⟩ := f.fly
    have base : wpAny (model prog w) A (noteFrame (.ref x) c.env) (fun _ s' => ∃ h'', s' = { s with heap := h'', toks := tk } ∧ Heap.HeldW (hideAll h₁ (c.stk.filterMap (·.frame))) c.stk x (.type "ValueError") (.ref t) c.env.locals h'' ∧ h'.UpToSlots h'') Ex { s with heap := h', toks := tk } := by
      refine wpAny_looks_onW (s := { s with heap := h', toks := tk }) (hA.trans (by rw [hs])) hf (show Heap.FlyingW (hideAll h₁ (c.stk.filterMap (·.frame))) (c.env :: outer) x (.type "ValueError") (.ref t) h' by rw [← hs]; exact fl) fun h'' fl' up' => ⟨h'', rfl, ?_, up'⟩
      rw [← hs] at fl'; exact fl'
    refine wpAny_mono (wpAny_tame' (b := m.2) (e := x) (Tame.note _ _) f.ctx base) (fun _ s' hq => ?_) fun _ _ y => y
    obtain ⟨hc2, h'', rfl, fl', up'⟩ := hq
    exact H h'' ⟨⟨t, tk', _, hhd, fl', ht.of_slots up', hn⟩, f.up.trans up', f.len, hc2⟩
  · obtain ⟨o, vs, t, tk', e, hcl, hd, v0, v1, v2, tn, ht⟩ := r.there
    have hff : h'.FunFrames (hideAll h₁ (c.stk.filterMap (·.frame))) c.stk := ff_base (fun _ z => z) g.ff r.keeps
    have hkb : (hideAll h₁ (c.stk.filterMap (·.frame))).StaysIn h' := fun b ob eb => r.keeps b ob (of_hideAll _ eb)
    have no : ∀ {a}, h₁.get? a = none → (hideAll h₁ (c.stk.filterMap (·.frame))).get? a = none := fun {a} ea => by
      cases q : (hideAll h₁ (c.stk.filterMap (·.frame))).get? a with
      | none => rfl
      | some ob => rw [of_hideAll _ q] at ea; cases ea
    have base : wpAny (model prog w) A (noteFrame (.ref x) c.env) (fun _ s' => ∃ h'', s' = { s with heap := h'', toks := tk } ∧ Heap.HeldW (hideAll h₁ (c.stk.filterMap (·.frame))) c.stk x (.type "ValueError") (.ref t) c.env.locals h'' ∧ h'.UpToSlots h'') Ex { s with heap := h', toks := tk } := by
      unfold noteFrame
      simp only [hf]
      refine wpAny_bind (wpAny_field e hd v1 ?_)
      rw [if_neg (by decide)]
      refine wpAny_entryW (s := { s with heap := h', toks := tk }) (base := hideAll h₁ (c.stk.filterMap (·.frame))) (outer := outer) (hA.trans (by rw [hs])) (by rw [← hs]; exact hff) hf e hkb (no r.new) hd (Array.getElem?_eq_some_iff.mp v1).1 v0 fun h'' hl => ?_
      obtain ⟨k1, k2, k3, k4⟩ := hl
      rw [hcl] at k3
      exact ⟨h'', rfl, ⟨k1, no r.new, by rw [hs]; rw [hs] at k2; exact k2, k3⟩, k4⟩
    refine wpAny_mono (wpAny_tame' (b := m.2) (e := x) (Tame.note _ _) r.f2 base) (fun _ s' hq => ?_) fun _ _ y => y
    obtain ⟨hc2, h'', rfl, fl', up'⟩ := hq
    exact H h'' ⟨⟨t, tk', _, hhd, fl', ht.of_slots up', no tn⟩, (Heap.UpToSlots.of_keeps r.keeps).trans up', r.len, hc2⟩
  · obtain ⟨t, tk', L, hLe, hh, ht, hn⟩ := id hx.fly
    have hLe' : L = c.env.locals := Option.some.inj (hLe.symm.trans hhd)
    subst hLe'
    exact wpAny_noteFrame_againW hf hh.2.2.2 (H h' hx)
theorem held_land {h₁ h' : Heap} {x : Addr} {m : Msg} {tk : Nat} {QU : Unit → Shared → Prop} (hx : HeldX c.stk h₁ x m h')
    (H : ∀ h'', Fly c.stk h₁ x m h'' → QU () { s with heap := h'', toks := tk }) : wpAny (model prog w) A (setFlight (.ref x) none) QU Ex { s with heap := h', toks := tk } := by
  obtain ⟨t, tk', L, hLe, hh, ht, hn⟩ := hx.fly
  have base : wpAny (model prog w) A (setFlight (.ref x) none) (fun _ s' => ∃ h'', s' = { s with heap := h'', toks := tk } ∧ Heap.FlyingW (hideAll h₁ (c.stk.filterMap (·.frame))) c.stk x (.type "ValueError") (.ref t) h'' ∧ h'.UpToSlots h'') Ex { s with heap := h', toks := tk } :=
    wpAny_landsW (s := { s with heap := h', toks := tk }) hh fun h'' fl' up' => ⟨h'', rfl, fl', up'⟩
  refine wpAny_mono (wpAny_tame' (b := m.2) (e := x) (Tame.flight _ _) hx.ctx base) (fun _ s' hq => ?_) fun _ _ y => y
  obtain ⟨hc2, h'', rfl, fl', up'⟩ := hq
  exact H h'' ⟨⟨t, tk', fl', ht.of_slots up', hn⟩, hx.up.trans up', hx.len, hc2⟩
theorem fly_land {h₁ h' : Heap} {x : Addr} {m : Msg} {tk : Nat} {QU : Unit → Shared → Prop} (f : Fly c.stk h₁ x m h')
    (H : ∀ h'', Fly c.stk h₁ x m h'' → QU () { s with heap := h'', toks := tk }) : wpAny (model prog w) A (setFlight (.ref x) none) QU Ex { s with heap := h', toks := tk } := by
  obtain ⟨t, tk', fl, ht, hn⟩ := f.fly
  have base : wpAny (model prog w) A (setFlight (.ref x) none) (fun _ s' => ∃ h'', s' = { s with heap := h'', toks := tk } ∧ Heap.FlyingW (hideAll h₁ (c.stk.filterMap (·.frame))) c.stk x (.type "ValueError") (.ref t) h'' ∧ h'.UpToSlots h'') Ex { s with heap := h', toks := tk } :=
    lands_againW (s := { s with heap := h', toks := tk }) fl fun h'' fl' up' => ⟨h'', rfl, fl', up'⟩
  refine wpAny_mono (wpAny_tame' (b := m.2) (e := x) (Tame.flight _ _) f.ctx base) (fun _ s' hq => ?_) fun _ _ y => y
  obtain ⟨hc2, h'', rfl, fl', up'⟩ := hq
  exact H h'' ⟨⟨t, tk', fl', ht.of_slots up', hn⟩, f.up.trans up', f.len, hc2⟩
theorem lit_land {h₁ h' : Heap} {x : Addr} {m : Msg} {tk : Nat} {QU : Unit → Shared → Prop} (hA : A.frames = some c.stk) (fn : c.Fn) (g : Ground b0 c h₁) (lit : Lit c.stk h₁ x m h')
    (H : ∀ h'', Fly c.stk h₁ x m h'' → QU () { s with heap := h'', toks := tk }) : wpAny (model prog w) A (noteFrame (.ref x) c.env) (fun _ s₂ => wpAny (model prog w) A (setFlight (.ref x) none) QU Ex s₂) Ex { s with heap := h', toks := tk } :=
  lit_note hA fn g lit fun h'' hx => held_land hx H
theorem Fly.kpG {h₁ h' : Heap} {x : Addr} {m : Msg} (f : Fly c.stk h₁ x m h') (g : Ground b0 c h₁) : Kp c.fs [] h₁ h' := f.kp (fun b hb => by obtain ⟨_, o, e, hd⟩ := g.ff.mem hb; exact ⟨o, e, hd⟩) g.fc
end
end Mine
end

section
set_option Elab.async false
namespace Mine
open PySem PySem.W PySem.Calls PyProof.Rows

theorem upd_same {x : String} {sl : Slot} {φ : Frm} (h : φ.lookup x = some sl) : upd x sl φ = φ := by
  induction φ with
  | nil => cases h
  | cons p φ ih =>
    obtain ⟨y, s⟩ := p
    rw [List.lookup_cons] at h
    unfold upd
    by_cases e : y = x
    · subst e
      simp only [beq_self_eq_true] at h
      cases h
      rw [if_pos rfl]
    · rw [if_neg e]
      rw [beq_eq_false_iff_ne.mpr (Ne.symm e)] at h
      rw [ih h]
section
variable {prog : Program} {w : World} {b0 : Heap} {mg mb : PySem.Str → Option Value} {consts : String → Option V} {r : Rec} {n : Nat} {c : Cx} {E : List Addr} {φ : Frm} {Ω : List (String × Addr)} {s : Shared} {Q : Flow → Shared → Prop} {Ex : Value → Shared → Prop} {A : Around}

theorem fly_data {P : Program × World} {h h' : Heap} {x : Addr} {m : Msg} (f : Fly c.stk h x m h') (st : StS P b0 c E φ Ω h) : ∃ t tk, h'.ExcAt x "ValueError" (.ref t) ∧ h'.TupAt t [.str m.1 tk] ∧ x ∉ c.Y Ω ∧ t ∉ c.Y Ω := by
  have kp := f.kpG st.st.ground
  obtain ⟨t, tk, fl, ht, hn⟩ := f.fly
  obtain ⟨f1, f2, f3, oe, vs, T, oT, ts, he, ⟨hc, h0⟩, hd, _⟩ := fl
  obtain ⟨ot, nt, et, ct, dt⟩ := id ht
  refine ⟨t, tk, ⟨oe, vs, he, hc, hd, h0⟩, ht, fun z => ?_, fun z => ?_⟩
  · obtain ⟨o, e⟩ := st.st.alive x (.inr z)
    by_cases hb : x ∈ c.stk.filterMap (·.frame)
    · obtain ⟨_, o', e', hd'⟩ := f3.mem hb
      rw [he] at e'; cases e'; exact hd' _ hd
    · rw [hideAll_get _ e hb] at f2; cases f2
  · obtain ⟨o, e⟩ := st.st.alive t (.inr z)
    by_cases hb : t ∈ c.stk.filterMap (·.frame)
    · obtain ⟨o', e', hc'⟩ := fc_kp st.st.fc kp (by simp) t hb
      rw [et] at e'; cases e'
      exact noFrame ct (by decide) hc'
    · rw [hideAll_get _ e hb] at hn; cases hn
theorem exc_kp {fs Y : List Addr} {h h' : Heap} {x : Addr} {a0 : Value} (k : Kp fs Y h h') (hx : x ∉ Y) (e : h.ExcAt x "ValueError" a0) : h'.ExcAt x "ValueError" a0 := by
  obtain ⟨o, vs, e1, e2, e3⟩ := e
  exact ⟨o, vs, k.same e1 hx (noFrame e2 (by decide)), e2, e3⟩
theorem tup_kp {fs Y : List Addr} {h h' : Heap} {t : Addr} {vs : List Value} (k : Kp fs Y h h') (hx : t ∉ Y) (e : h.TupAt t vs) : h'.TupAt t vs := by
  obtain ⟨o, n, e1, e2, e3⟩ := e
  exact ⟨o, n, k.same e1 hx (noFrame e2 (by decide)), e2, e3⟩

/-- the name of a handler is stored -/
theorem put_gone {er : String} {v : Value} (ok : c.Ok n) (st : StS (prog, w) b0 c E φ Ω s.heap) (hn : LName c.env.scope er) {QU : Unit → Shared → Prop}
    (H : ∀ h' tk, Kp c.fs c.own s.heap h' → StS (prog, w) b0 c E (upd er .gone φ) Ω h' → (∃ m cm, h'.Ns c.env.locals m ∧ (∀ n k, c.env.cells.lookup n = some k → h'.IsCell k (cm n)) ∧ atName c m cm (nm er) = some v ) → QU () { s with heap := h', toks := tk }) :
    wpAny (model prog w) A (storeName c.env (nm er) v) QU Ex s := by
  obtain ⟨m, cm, h1, h2, h3⟩ := st.st.loc
  refine store_sound ok st.own_nodup hn h1 h2 fun h' tk pt => ?_
  have st' : StS (prog, w) b0 c E (upd er .gone φ) Ω h' := st.put h3 pt (fun _ _ => rfl) (fun b hb => .inl hb) st.nodup trivial fun ds a e => nomatch e
  refine H h' tk pt.keep st' ?_
  obtain ⟨m', cm', l1, l2, l3, l4⟩ := id pt.loc
  exact ⟨m', cm', l1, l2, l3⟩
/-- behind the handler -/
theorem gone_goes {er : String} {pos : Pos} (ok : c.Ok n) (st : StS (prog, w) b0 c E φ Ω s.heap) (hl : c.env.scope.names.lookup (nm er) = some .local) (hg : φ.lookup er = some .gone) {QU : Unit → Shared → Prop}
    (H : ∀ h' tk, Kp c.fs c.own s.heap h' → StS (prog, w) b0 c E φ Ω h' → Heap.SameBut c.env.locals s.heap h' → QU () { s with heap := h', toks := tk }) :
    wpAny (model prog w) A (do bindName c.env (nm er) .none; unbindBehindTheSuite c.env (nm er) pos) QU Ex s := by
  obtain ⟨m, cm, h1, h2, h3⟩ := st.st.loc
  have ndl : c.env.locals ∉ c.env.cells.map (·.2) := (List.nodup_cons.mp st.own_nodup).1
  refine name_goes hl h1 ok.kind fun h' v hn' hs' hcl => ?_
  have pt : Put c er v m cm s.heap h' := by
    refine ⟨fun b o e hb => .inl (hs'.extBut b o (fun z => hb (by rw [z]; exact .head _)) e), same_alive hs' (let ⟨o, _, _, e, _⟩ := hn'; ⟨o, e⟩), hcl, _, cm, hn', fun y k hk => ?_, ?_, fun y hy => ?_⟩
    · exact (h2 y k hk).sameBut hs' fun z => ndl (by rw [← z]; exact List.mem_map.mpr ⟨_, lookup_mem hk, rfl⟩)
    · unfold atName Env.kindOf; rw [hl]; simp
    · unfold atName
      split <;> first | rfl | (simp only [if_neg hy])
  have st' : StS (prog, w) b0 c E (upd er .gone φ) Ω h' := st.put h3 pt (fun _ _ => rfl) (fun b hb => .inl hb) st.nodup trivial fun ds a e => nomatch e
  rw [upd_same hg] at st'
  exact H h' _ pt.keep st' hs'
theorem own_Y' {b : Addr} (h : b ∈ c.own) : b ∈ c.Y Ω := own_Y h

theorem ex_tryStr {x er y : String} {xp p1 vp yp sp ep cp p2 hp p : Pos} {v : Expr} {e : IE} (S : Stat (prog, w) b0 mg mb consts) (hE : SEv prog w b0 r n) (ok : c.Ok n) (fn : c.Fn) (st : StS (prog, w) b0 c E φ Ω s.heap) (hn : LName c.env.scope x) (hv : CE c.env.scope v e) (hc : isComp e = false) (hve : GName c.env.scope "ValueError")
    (hl : c.env.scope.names.lookup (nm er) = some .local) (hdbg : (nm er == ("__debug__" : PySem.Str)) = false) (h0 : er ≠ ".0") (hy : LName c.env.scope y) (hst : GName c.env.scope "str") (hey : er ≠ y)
    (H : G (exI r φ (.tryStr x e y er)) (ExPost (prog, w) b0 c E Ω s Q) (XPostS b0 c Ω s Ex)) :
    wpAny (model prog w) c.A (exec (.Try [.Assign [.Name (nm x) xp] v p1] [.ExceptHandler (some (.Name (nm "ValueError") vp)) (some (nm er)) [.Assign [.Name (nm y) yp] (.Call (.Name (nm "str") sp) [.Name (nm er) ep] [] cp) p2] hp] [] [] p) c.env) Q Ex s := by
  dsimp only [exI] at H
  have hner : LName c.env.scope er := ⟨.inl hl, hdbg, h0⟩
  refine wpAny_Try_except (wpAny_execs_cons (wpAny_Assign_Name (hE c E φ Ω s _ _ _ _ ok st.st hv ?_) (hv.swN hc)))
  cases hr : r.ev φ e with
  | bad => rw [hr] at H; exact H.elim
  | ok u =>
    rw [hr] at H
    intro v' h₁ tk₁ k₁ r₁
    cases hf : fzV u with
    | bad => dsimp only [Res.bind] at H; rw [hf] at H; exact H.elim
    | exc m => unfold fzV at hf; split at hf <;> cases hf
    | ok d =>
      dsimp only [Res.bind] at H
      rw [hf] at H
      refine put_val ok st hn k₁ (fz_R hf r₁) fun h' tk k st' => ?_
      exact wpAny_execs_nil (wpAny_execs_nil ((show ExPost (prog, w) b0 c E Ω s Q (.next, upd x (.val d true) φ) from H) .next h' tk Ω trivial k .refl st'))
  | exc m =>
    rw [hr] at H
    dsimp only [Res.bind] at H
    have H : ExPost (prog, w) b0 c E Ω s Q (.next, upd y (.val (.str m.1) true) (upd er .gone φ)) := H
    intro xa h' tk fl
    refine lit_land (s := s) ok.frames fn st.st.ground (.inl fl) fun h₂ fl₂ => ?_
    have st₂ := st.kp (fl₂.kpG st.st.ground)
    refine wpAny_handleBy_builtin_as (X := "ValueError") (T := "ValueError") (b := true) F.isExc_ValueError F.notTuple_ValueError F.self_ValueError ?_
    refine ld_boot (s := { s with heap := h₂, toks := tk }) S ok st₂.st hve (S.free _ (by decide)) boot_ve (by decide) ⟨rfl, ?_, ?_⟩
    · obtain ⟨t, tk', ⟨o, vs, e1, e2, e3, _⟩, _⟩ := fly_data fl₂ st
      exact ⟨o, e1, e2⟩
    · rw [if_pos rfl]
      refine fly_land (s := s) fl₂ fun h₃ fl₃ => ?_
      have k₃ := fl₃.kpG st.st.ground
      have st₃ := st.kp k₃
      refine put_gone (s := { s with heap := h₃, toks := tk }) ok st₃ hner fun h₄ tk₄ k₄ st₄ ⟨m', cm', l1, l2, l3⟩ => ?_
      obtain ⟨t, tk', ha, ht, nx, nt⟩ := fly_data fl₃ st
      have ha₄ := exc_kp k₄ (fun z => nx (own_Y z)) ha
      have ht₄ := tup_kp k₄ (fun z => nt (own_Y z)) ht
      refine wpAny_execs_cons (wpAny_Assign_Name (Call_ (ld_boot (s := { s with heap := h₄, toks := tk₄ }) S ok st₄.st hst (S.free _ (by decide)) boot_str (by decide) (callWith_type1 ?_ rfl rfl))) rfl)
      refine args_cons (ld_at (s := { s with heap := h₄, toks := tk₄ }) ok hner l1 l2 l3 (args_nil ?_)) rfl
      refine PySem.P.str_of_exc_one F.excStr_ValueError (by have := ok.units; show c.A.units + 2 < _; omega) ha₄ ht₄ ?_
      refine put_val (s := { s with heap := h₄, toks := tk₄ }) ok st₄ hy .refl (.str _ _ fl.len) fun h₅ tk₅ k₅ st₅ => ?_
      refine wpAny_execs_nil ?_
      refine gone_goes (s := { s with heap := h₅, toks := tk₅ }) ok st₅ hl (by rw [upd_lookup, if_neg hey, upd_lookup, if_pos rfl]) fun h₆ tk₆ k₆ st₆ _ => ?_
      exact H .next h₆ tk₆ Ω trivial ((((k₃.weak fun _ z => nomatch z).trans (k₄.weak fun _ => own_Y)).trans k₅).trans (k₆.weak fun _ => own_Y)) .refl st₆
end
end Mine
end

section
set_option Elab.async false
namespace Mine
open PySem PySem.W PySem.Calls PyProof.Rows

theorem entry_unchain : entryFor table "proto.unchain" = some Builtin.«proto.unchain» := entryFor_of_tree (by kernel_rfl)
section
variable {prog : Program} {w : World} {A : Around} {E : Value → Shared → Prop} {s : Shared} {env : Env}

abbrev madeExc (t : Addr) (c2 : Value) (sup : Bool) : Obj := { cls := .type "ValueError", data := .fields #[.ref t, .none, c2, .none, .bool sup, .none] }
theorem unchain_none {e h : Addr} {oh : Obj} {vh : Array Value} {Q : Value → Shared → Prop} (hh : s.heap.get? h = some oh) (hd : oh.data = .fields vh) (h2 : vh[2]? = some .none) (hQ : Q .none s) :
    wpAny (model prog w) A (runValue (.builtin "proto.unchain" ⟨[.ref e, .ref h, .ref h, .bool false], []⟩)) Q E s := by
  refine wpAny_runValue (codeAny_builtin entry_unchain ?_)
  unfold Builtin.«proto.unchain»
  refine wpAny_bind (wpAny_field hh hd h2 ?_)
  rw [if_pos (show (Value.none == Value.none) = true from by decide)]
  exact wpAny_pure hQ
theorem exc_from {e t : Addr} {c2 : Value} {b : Bool} {msg : String} {Q : Value → Shared → Prop} (he : s.heap.get? e = some (madeExc t c2 b)) (hQ : Q (.ref e) s) : wpAny (model prog w) A (excFromValue (.ref e) msg) Q E s := by
  have hsub := F.excRaise_ValueError.isExc
  have hmeta := F.excRaise_ValueError.plainMeta
  obtain ⟨hp, g, d, tk, os⟩ := s
  unfold excFromValue
  repeat (first | exact hQ | refine wpAny_loadPart he ?_ | wp_step)
theorem is_type {e t : Addr} {c2 : Value} {b : Bool} {Q : Bool → Shared → Prop} (he : s.heap.get? e = some (madeExc t c2 b)) (hQ : Q false s) : wpAny (model prog w) A (isType (.ref e)) Q E s := by
  obtain ⟨hp, g, d, tk, os⟩ := s
  unfold isType
  repeat (first | exact hQ | refine wpAny_loadPart he ?_ | wp_step)
theorem raised_inst {e t : Addr} {c2 : Value} {b : Bool} {Q : Value → Shared → Prop} (he : s.heap.get? e = some (madeExc t c2 b)) (hQ : Q (.ref e) s) : wpAny (model prog w) A (raisedInstance (.ref e)) Q E s := by
  have hsub := F.excRaise_ValueError.isExc
  have hmeta := F.excRaise_ValueError.plainMeta
  obtain ⟨hp, g, d, tk, os⟩ := s
  unfold raisedInstance
  repeat (first | exact hQ | refine wpAny_loadPart he ?_ | wp_step)
theorem set_made {e t : Addr} {c2 c2' : Value} {b b' : Bool} {i : Nat} {x : Value} {Q : Unit → Shared → Prop} (he : s.heap.get? e = some (madeExc t c2 b)) (hi : i < 6) (hs : #[Value.ref t, .none, c2, .none, .bool b, .none].setIfInBounds i x = #[Value.ref t, .none, c2', .none, .bool b', .none])
    (hQ : ∀ h', Heap.SameBut e s.heap h' → h'.get? e = some (madeExc t c2' b') → Q () { s with heap := h' }) : wpAny (model prog w) A (setField (.ref e) i x) Q E s := by
  refine wpAny_setField he rfl hi (hQ _ (Heap.SameBut.update _ _ _) ?_)
  have := Heap.get?_update_self (Obj.mapFields (·.setIfInBounds i x)) he (Obj.isFreed_of_fields (Obj.data_mapFields rfl _))
  rw [this]
  show some ({ cls := .type "ValueError", data := .fields (#[Value.ref t, .none, c2, .none, .bool b, .none].setIfInBounds i x) } : Obj) = _
  rw [hs]
/-- raise X from None, in a handler -/
theorem raise_from {x c : Sem Value} {h : Addr} {Q : Flow → Shared → Prop} (hA : A.handled = some (.ref h)) (hc : ∀ s Q, Q .none s → wpAny (model prog w) A c Q E s)
    (hx : wpAny (model prog w) A x (fun v s₁ => ∃ e t oh vh, v = .ref e ∧ s₁.heap.get? e = some (madeExc t .none false) ∧ e ≠ h ∧ s₁.heap.get? h = some oh ∧ oh.data = .fields vh ∧ vh[2]? = some .none ∧
      ∀ h', Heap.SameBut e s₁.heap h' → h'.get? e = some (madeExc t (.ref h) true) → E (.ref e) { s₁ with heap := h' }) E s) :
    wpAny (model prog w) A (raiseStmt env (some x) (some c)) Q E s := by
  unfold raiseStmt
  refine wpAny_bind (wpAny_mono hx (fun v s₁ h₁ => ?_) fun _ _ x => x)
  obtain ⟨e, t, oh, vh, rfl, he, hne, hh, hd, h2, hE⟩ := h₁
  refine wpAny_bind (wpAny_holding (hc _ _ (wpAny_bind (wpAny_pure ?_))))
  dsimp only
  refine wpAny_bind (wpAny_holding (exc_from he ?_))
  rw [if_pos (show (Value.none == Value.none) = true from by decide)]
  refine wpAny_bind (wpAny_pure (wpAny_bind (set_made (c2' := .none) (b' := false) he (by decide) rfl fun h₁ k₁ e₁ => ?_)))
  refine wpAny_bind (set_made (s := { s₁ with heap := h₁ }) (c2' := .none) (b' := true) e₁ (by decide) rfl fun h₂ k₂ e₂ => ?_)
  refine wpAny_bind (is_type (s := { s₁ with heap := h₂ }) e₂ ?_)
  rw [if_neg (by decide)]
  refine wpAny_bind (raised_inst (s := { s₁ with heap := h₂ }) e₂ ?_)
  refine wpAny_bind ?_
  unfold setFlight
  refine wpAny_bind (wpAny_field (s := { s₁ with heap := h₂ }) (x := .none) e₂ rfl (i := 1) rfl ?_)
  rw [if_neg (show ¬ (Value.none != Value.none) = true from by decide)]
  refine wpAny_pure ?_
  unfold raiseNew
  refine wpAny_bind (wpAny_handled ?_)
  rw [hA]
  dsimp only
  have k₁₂ := k₁.trans k₂
  have hh₂ : h₂.get? h = some oh := (k₁₂.2 h (Ne.symm hne)).trans hh
  rw [if_pos (show (Value.ref h != Value.ref e) = true from by simp [Ne.symm hne])]
  refine wpAny_bind (wpAny_holding (unchain_none (s := { s₁ with heap := h₂ }) hh₂ hd h2 (wpAny_bind ?_)))
  have upd2 : wpAny (model prog w) A (setField (.ref e) 2 (.ref h)) (fun _ s' => wpAny (model prog w) A (throw (.ref e) : Sem Flow) Q E s') E { s₁ with heap := h₂ } :=
    set_made (s := { s₁ with heap := h₂ }) (c2' := .ref h) (b' := true) e₂ (by decide) rfl fun h₃ k₃ e₃ => wpAny_throw (hE h₃ (k₁₂.trans k₃) e₃)
  exact upd2
end
end Mine
end

section
set_option Elab.async false
namespace Mine
open PySem PySem.W PySem.Calls PyProof.Rows

section
variable {prog : Program} {w : World} {b0 : Heap} {c : Cx} {s : Shared} {Ex : Value → Shared → Prop} {A : Around}

theorem HeldX.kpG {h₁ h' : Heap} {x : Addr} {m : Msg} (f : HeldX c.stk h₁ x m h') (g : Ground b0 c h₁) : Kp c.fs [] h₁ h' := fun b o e _ => by
  obtain ⟨t, tk, L, _, fl, _, _⟩ := f.fly
  by_cases hb : b ∈ c.stk.filterMap (·.frame)
  · obtain ⟨_, o', e', hd⟩ := g.ff.mem hb
    obtain ⟨o'', e'', hc⟩ := g.fc b hb
    rw [e] at e' e''; cases e'; cases e''
    exact .inr ⟨hb, hc, hd, f.up b o e hd⟩
  · exact .inl (fl.1 b o (hideAll_get _ e hb))
/-- the name of the handler has gone meanwhile -/
theorem HeldX.relocal {h₁ h' h'' : Heap} {x : Addr} {m : Msg} {o'' : Obj} (hx : HeldX c.stk h₁ x m h') (fn : c.Fn) (g : Ground b0 c h₁) (hs : Heap.SameBut c.env.locals h' h'') (e'' : h''.get? c.env.locals = some o'') (hc : o''.cls = .type "frame") (hd : ∀ vs, o''.data ≠ .fields vs) (hfr : o''.isFreed = false) :
    ∃ h₂, Heap.SameBut c.env.locals h₁ h₂ ∧ Ground b0 c h₂ ∧ HeldX c.stk h₂ x m h'' := by
  obtain ⟨outer, hst⟩ := fn.head
  have hL : c.env.locals ∈ c.stk.filterMap (·.frame) := by rw [hst]; exact List.mem_filterMap.mpr ⟨c.env, .head _, fn.frame⟩
  obtain ⟨hoff, o₁, e₁, _⟩ := g.ff.mem hL
  have e₂ : (h₁.update c.env.locals fun _ => o'').get? c.env.locals = some o'' := Heap.get?_update_self _ e₁ hfr
  have hsb : Heap.SameBut c.env.locals h₁ (h₁.update c.env.locals fun _ => o'') := Heap.SameBut.update _ _ _
  generalize (h₁.update c.env.locals fun _ => o'') = h₂ at e₂ hsb
  have hstay : ∀ b o, b ≠ c.env.locals → (h₁.get? b = some o ↔ h₂.get? b = some o) := fun b o hb => by rw [hsb.2 b hb]
  have hbase : ∀ b o, (hideAll h₂ (c.stk.filterMap (·.frame))).get? b = some o → (hideAll h₁ (c.stk.filterMap (·.frame))).get? b = some o := fun b o e => by
    have hb : b ∉ c.stk.filterMap (·.frame) := fun z => by rw [hideAll_none _ z] at e; cases e
    exact hideAll_get _ ((hstay b o fun z => hb (z ▸ hL)).mpr (of_hideAll _ e)) hb
  have hne : ∀ b, (hideAll h₁ (c.stk.filterMap (·.frame))).get? b = none → (hideAll h₂ (c.stk.filterMap (·.frame))).get? b = none := fun b hb => by
    cases q : (hideAll h₂ (c.stk.filterMap (·.frame))).get? b with
    | none => rfl
    | some o => rw [hbase b o q] at hb; cases hb
  have hframes : ∀ {h : Heap}, h.get? c.env.locals = some o'' → ∀ {k : Heap}, (∀ b o, b ≠ c.env.locals → k.get? b = some o → h.get? b = some o) → ∀ {base base' : Heap}, (∀ b, base.get? b = none → base'.get? b = none) → ∀ {l : List Env}, k.FunFrames base l → h.FunFrames base' l := by
    intro h he k hk base base' hb l
    induction l with
    | nil => intro _; trivial
    | cons e l ih =>
      intro ⟨q1, ⟨L, o, q2, q3, q4, q5⟩, q6⟩
      refine ⟨q1, ?_, ih q6⟩
      by_cases z : L = c.env.locals
      · exact ⟨L, o'', q2, hb _ q3, by rw [z]; exact he, hd⟩
      · exact ⟨L, o, q2, hb _ q3, hk L o z q4, q5⟩
  refine ⟨h₂, hsb, ⟨fun b o e => ?_, hframes e₂ (fun b o hb e => (hstay b o hb).mp e) (fun _ z => z) g.ff, fun b hb => ?_⟩, ?_⟩
  · exact (hstay b o fun z => by rw [z, hoff] at e; cases e).mp (g.stay b o e)
  · by_cases z : b = c.env.locals
    · rw [z]; exact ⟨o'', e₂, hc⟩
    · obtain ⟨o, e, hc'⟩ := g.fc b hb
      exact ⟨o, (hstay b o z).mp e, hc'⟩
  · obtain ⟨t, tk, L, q1, ⟨f1, f2, f3, f4⟩, q3, q4⟩ := hx.fly
    obtain ⟨o', e'⟩ : ∃ o', h'.get? c.env.locals = some o' ∧ ∀ vs, o'.data ≠ .fields vs := by obtain ⟨_, o', e', hd'⟩ := f3.mem hL; exact ⟨o', e', hd'⟩
    have keep : ∀ b o, b ≠ c.env.locals → h'.get? b = some o → h''.get? b = some o := fun b o hb e => hs.extBut b o hb e
    have notL : ∀ b o vs, h'.get? b = some o → o.data = .fields vs → b ≠ c.env.locals := fun b o vs e hd' z => by rw [z, e'.1] at e; cases e; exact e'.2 _ hd'
    obtain ⟨oe, vs, T, oT, ts, t1, t2, t3, t4, t5, t6, t7, t8, t9⟩ := f4
    have tne : t ≠ c.env.locals := fun z => by
      obtain ⟨ol, el, hcl⟩ := fc_kp g.fc (hx.kpG g) (by simp) c.env.locals hL
      obtain ⟨ot, nt, et, ct, dt⟩ := q3
      rw [z, el] at et; cases et
      exact noFrame ct (by decide) hcl
    refine ⟨⟨t, tk, L, q1, ⟨fun b o e => ?_, hne _ f2, hframes e'' keep (fun b z => hne b z) f3, oe, vs, T, oT, ts, keep _ _ (notL _ _ _ t1 t3) t1, t2, t3, t4, hne _ t5, t6, keep _ _ (notL _ _ _ t7 t8) t7, t8, t9⟩, ?_, hne _ q4⟩, fun b o e hnf => ?_, hx.len, fun hm => ?_⟩
    · have hb : b ∉ c.stk.filterMap (·.frame) := fun z => by rw [hideAll_none _ z] at e; cases e
      exact keep b o (fun z => hb (z ▸ hL)) (f1 b o (hbase b o e))
    · obtain ⟨ot, nt, et, ct, dt⟩ := q3
      exact ⟨ot, nt, keep _ _ tne et, ct, dt⟩
    · by_cases z : b = c.env.locals
      · subst z; rw [e₂] at e; cases e; exact ⟨o''.slots, e''⟩
      · obtain ⟨sl, e3⟩ := hx.up b o ((hstay b o z).mpr e) hnf
        exact ⟨sl, keep _ _ z e3⟩
    · obtain ⟨o, vs', q5, q6, q7⟩ := hx.ctx hm
      exact ⟨o, vs', keep _ _ (notL _ _ _ q5 q6) q5, q6, q7⟩
end
end Mine
namespace Mine
open PySem PySem.W PySem.Calls PyProof.Rows
section
variable {prog : Program} {w : World} {b0 : Heap} {c : Cx} {s : Shared} {Ex : Value → Shared → Prop} {A : Around}
theorem pass_on {α : Type} {what : String} {h₁ h' : Heap} {x : Addr} {m : Msg} {tk : Nat} {QF : α → Shared → Prop} (fn : c.Fn) (hx : HeldX c.stk h₁ x m h') (H : Ex (.ref x) { s with heap := h', toks := tk }) :
    wpAny (model prog w) A (PySem.passOn what (.ref x) c.env : Sem α) QF Ex { s with heap := h', toks := tk } := by
  obtain ⟨outer, hst⟩ := fn.head
  obtain ⟨t, tk', L, q1, ⟨f1, f2, f3, oe, vs, T, oT, ts, t1, t2, t3, t4, t5, t6, t7, t8, t9⟩, q3, q4⟩ := hx.fly
  have hLe : L = c.env.locals := Option.some.inj (q1.symm.trans (by rw [hst]; exact fn.frame))
  unfold PySem.passOn
  refine wpAny_bind (wpAny_field (s := { s with heap := h', toks := tk }) t1 t3 t4 ?_)
  rw [if_neg (show ¬ (Value.ref T == Value.none) = true from by simp)]
  unfold setFlight
  refine wpAny_bind (wpAny_bind (wpAny_field (s := { s with heap := h', toks := tk }) t1 t3 t4 ?_))
  rw [if_pos (show (Value.ref T != Value.none) = true from by simp), fn.frame]
  show wpAny _ A (setField (.ref T) 3 (rawInt c.env.locals)) _ _ _
  refine wpAny_setField (s := { s with heap := h', toks := tk }) t7 t8 (Array.getElem?_eq_some_iff.mp t9).1 ?_
  rw [hLe] at t9
  rw [Heap.update_setField_same h' T oT ts 3 (rawInt c.env.locals) t7 t8 t9]
  exact wpAny_throw H
end
end Mine
end

section
set_option Elab.async false
namespace Mine
open PySem PySem.W PySem.Calls PyProof.Rows

end Mine
end

section
set_option Elab.async false
set_option maxRecDepth 100000
namespace Mine
open PySem PySem.W PySem.Calls PyProof.Rows PySem.Builtin PySem.Builtin.Str

theorem slot_ve_format : PySem.Slot "ValueError" "__format__" "object.__format__" :=
  PySem.Slot.of (owner := "object") (n := "__format__") (by rw [typeLookup_type, builtinLookup_eq_fast]; kernel_rfl) (by decide +kernel) (by decide +kernel) (by decide +kernel)
    (by first | exact .inl (by decide +kernel) | exact .inr (by decide +kernel)) (by rw [isSubtype_type]; kernel_rfl)
section
variable {prog : Program} {w : World} {A : Around} {E : Value → Shared → Prop} {s : Shared}
theorem format_exc {e t0 : Addr} {m : PySem.Str} {tk : Tok} {Q : Value → Shared → Prop} (hu : A.units + 4 < cLine) (x : s.heap.ExcAt e "ValueError" (.ref t0)) (ht : s.heap.TupAt t0 [.str m tk]) (h : Q (.str m tk) { s with toks := s.toks + 1 }) :
    wpAny (model prog w) A (formatField (.ref e) PySem.Str.empty) Q E s := by
  show wpAny _ _ (holding [.ref e] (pyFormat (.ref e) PySem.Str.empty)) Q E s
  refine wpAny_holding ?_
  unfold pyFormat
  refine wpAny_bind (wpAny_mkStr ?_)
  have x' : ({ s with toks := s.toks + 1 } : Shared).heap.ExcAt e "ValueError" (.ref t0) := x
  refine wpAny_bind (m := callSpecial? (.ref e) (Str.ofString "__format__") [.str PySem.Str.empty s.toks]) (wpAny_callSpecial?_slot (name := Str.ofString "__format__") x'.typeIs slot_ve_format ?_)
  refine wpAny_call_entry slot_ve_format x'.typeIs F.entry_object_format ?_ (F.args_object_format_2 _ _)
  show wpAny _ _ (do let _shown ← typeNameOf (.str PySem.Str.empty s.toks); (do ret (← pyStrObj (.ref e)))) _ _ _
  refine wpAny_bind (wpAny_typeNameOf (T := "str") (typeIs_str _ _ _) (by decide) fun _ => ?_)
  refine wpAny_bind (pyStrObj_exc_one F.excStr_ValueError (by show A.units + 1 < cLine; omega) x' ht (wpAny_pure ⟨_, rfl, ?_⟩))
  exact wpAny_bind (wpAny_isInstance (T := "str") (b := true) rfl isSubtype_str_str (wpAny_pure h))
end
end Mine
end

section
set_option Elab.async false
namespace Mine
open PySem PySem.W PySem.Calls PyProof.Rows

section
variable {prog : Program} {w : World} {b0 : Heap} {mg mb : PySem.Str → Option Value} {consts : String → Option V} {r : Rec} {n : Nat} {c : Cx} {E : List Addr} {φ : Frm} {Ω : List (String × Addr)} {s : Shared} {Q : Flow → Shared → Prop} {Ex : Value → Shared → Prop} {A : Around}

theorem ExPost.kp0 {h₁ : Heap} {tk₁ : Nat} {p : Fl × Frm} (H : ExPost (prog, w) b0 c E Ω s Q p) (k : Kp c.fs [] s.heap h₁) : ExPost (prog, w) b0 c E Ω { s with heap := h₁, toks := tk₁ } Q p :=
  H.step (k.weak fun _ z => nomatch z) .refl
theorem one_stmt {a : Stmt} {Q' : Flow → Shared → Prop} (h : wpAny (model prog w) A (exec a c.env) Q' Ex s) : wpAny (model prog w) A (execs [a] c.env) Q' Ex s :=
  wpAny_execs_cons (wpAny_mono h (fun f s' q => by cases f <;> first | exact wpAny_execs_nil q | exact q) fun _ _ x => x)
theorem try_body {t1 t2 v1 v2 v3 : Expr} {x : String} {xp1 ap1 c1 p1 xp2 ap2 c2 p2 np3 c3 p3 q2 q1 : Pos} {ti1 ti2 : TE} {e1 e2 m : IE} (S : Stat (prog, w) b0 mg mb consts) (hE : SEv prog w b0 r n) (hT : STs prog w b0 r n) (ok : c.Ok n) (st : StS (prog, w) b0 c E φ Ω s.heap)
    (h1 : CT c.env.scope t1 ti1) (hx : LName c.env.scope x) (hl1 : (ap1.endLine == c1.line) = true) (hv1 : CE c.env.scope v1 e1) (h2 : CT c.env.scope t2 ti2) (hl2 : (ap2.endLine == c2.line) = true) (hv2 : CE c.env.scope v2 e2) (hve : GName c.env.scope "ValueError") (hv3 : CE c.env.scope v3 m)
    (H : G (tryLineI r φ ti1 x e1 ti2 e2 m) (ExPost (prog, w) b0 c E Ω s Q) (XPost0 c s Ex)) :
    wpAny (model prog w) c.A (exec (.If t1 [.Expr (.Call (.Attribute (.Name (nm x) xp1) (nm "append") ap1) [v1] [] c1) p1] [.If t2 [.Expr (.Call (.Attribute (.Name (nm x) xp2) (nm "append") ap2) [v2] [] c2) p2] [.Raise (some (.Call (.Name (nm "ValueError") np3) [v3] [] c3)) Option.none p3] q2] q1) c.env) Q Ex s := by
  unfold tryLineI at H
  refine wpAny_If (hT c E φ Ω s _ _ _ _ ok st.st h1 (H.bind.mono (fun b _ Hb h₁ tk₁ k₁ => ?_) fun _ _ X => X.now))
  have st₁ := st.kp k₁
  cases b with
  | true =>
    refine one_stmt (ex_append0 (s := { s with heap := h₁, toks := tk₁ }) hE ok st₁ hx hl1 hv1 (G.mono (show G (appI r φ x e1) _ _ from Hb) (fun _ _ Hq => Hq.kp0 k₁) fun _ _ X => X.step k₁))
  | false =>
    have Hb : G ((r.ts φ ti2).bind fun b => if b then appI r φ x e2 else raiseI r φ m) (ExPost (prog, w) b0 c E Ω s Q) (XPost0 c s Ex) := Hb
    refine one_stmt (wpAny_If (hT c E φ Ω { s with heap := h₁, toks := tk₁ } _ _ _ _ ok st₁.st h2 (Hb.bind.mono (fun b _ Hb h₂ tk₂ k₂ => ?_) fun _ _ X => (X.step k₁).now)))
    have k₁₂ := k₁.trans k₂
    have st₂ := st.kp k₁₂
    cases b with
    | true => exact one_stmt (ex_append0 (s := { s with heap := h₂, toks := tk₂ }) hE ok st₂ hx hl2 hv2 (G.mono (show G (appI r φ x e2) _ _ from Hb) (fun _ _ Hq => Hq.kp0 k₁₂) fun _ _ X => X.step k₁₂))
    | false => exact one_stmt (ex_raise0 (s := { s with heap := h₂, toks := tk₂ }) S hE ok st₂ hve hv3 (G.mono (show G (raiseI r φ m) _ _ from Hb) (fun _ _ Hq => Hq.kp0 k₁₂) fun _ _ X => X.step k₁₂))

noncomputable def lineText (i : Int) (m : PySem.Str) : PySem.Str := PySem.Str.ofString "line " ++ PySem.Str.ofString (toString i) ++ PySem.Str.ofString ": " ++ m
theorem empty_app (x : PySem.Str) : PySem.Str.empty ++ x = x := by
  obtain ⟨a⟩ := x
  show (⟨#[] ++ a⟩ : PySem.Str) = ⟨a⟩
  rw [Array.empty_append]
/-- the text of the new exception -/
theorem line_text {er nu : String} {l1p nup nfp l2p erp efp jp : Pos} {l1k l2k : Nat} {i : Int} {f : Bool} {mt : PySem.Str} {tkm : Tok} {xa t : Addr} {m' cm' : PySem.Str → Option Value} {QV : Value → Shared → Prop} (ok : c.Ok n) (st : StS (prog, w) b0 c E φ Ω s.heap) (hu : A.units = c.A.units) (hnu : LName c.env.scope nu) (hner : LName c.env.scope er)
    (hi : φ.lookup nu = some (.val (.int i) f)) (hb : i.natAbs < 2 ^ 60) (l1 : s.heap.Ns c.env.locals m') (l2 : ∀ n k, c.env.cells.lookup n = some k → s.heap.IsCell k (cm' n)) (l3 : atName c m' cm' (nm er) = some (.ref xa)) (ha : s.heap.ExcAt xa "ValueError" (.ref t)) (ht : s.heap.TupAt t [.str mt tkm]) (hm : mt.length ≤ 100000)
    (H : ∀ t tk, (lineText i mt).length ≤ sizeLine → QV (.str (lineText i mt) t) { s with toks := tk }) :
    wpAny (model prog w) A (eval (.JoinedStr [.Constant (.str (nm "line ")) l1k l1p, .FormattedValue (.Name (nm nu) nup) (-1) Option.none nfp, .Constant (.str (nm ": ")) l2k l2p, .FormattedValue (.Name (nm er) erp) (-1) Option.none efp] jp) c.env) QV Ex s := by
  obtain ⟨m, cm, h1, h2, h3⟩ := st.st.loc
  obtain ⟨v, hv, rv⟩ := h3 nu _ hi hnu
  obtain ⟨tv, rfl⟩ := rv.inv_int
  have hl2 : i.natAbs.log2 < 60 := by
    by_cases h0 : i.natAbs = 0
    · rw [h0]; decide
    · exact (Nat.log2_lt h0).mpr hb
  have hlen : (PySem.Str.ofString (toString i)).length ≤ 100 := by
    have e := int_text_length_le (k := 60) (by decide) hl2
    rw [PySem.ofString_length]; omega
  have e1 : (PySem.Str.ofString "line ").length = 5 := rfl
  have e2 : (PySem.Str.ofString ": ").length = 2 := rfl
  have s1 : sizeLine = sizeLine := rfl
  have hsz : 200000 ≤ sizeLine := by rw [sizeLine_eq]; decide
  refine JoinedStr_many (joinParts_cons (wpAny_Constant_str ⟨?_, joinParts_cons (wpAny_FormattedValue_plain (ld_at (s := { s with toks := s.toks + 1 }) ok hnu h1 h2 hv (wpAny_formatField_int (by omega) ⟨?_, ?_⟩)))⟩))
  · rw [empty_app, e1]; omega
  · rw [empty_app, PySem.Str.length_append]; show 5 + (PySem.Str.ofString (toString i)).length ≤ _; omega
  · refine joinParts_cons (wpAny_Constant_str ⟨?_, joinParts_cons (wpAny_FormattedValue_plain (ld_at ok hner l1 l2 l3 (format_exc (by have := ok.units; rw [hu]; omega) ha ht ⟨?_, joinParts_nil ?_ ?_⟩)))⟩)
    · rw [empty_app, PySem.Str.length_append, PySem.Str.length_append]; show 5 + (PySem.Str.ofString (toString i)).length + 2 ≤ _; omega
    · rw [empty_app, PySem.Str.length_append, PySem.Str.length_append, PySem.Str.length_append]; show 5 + (PySem.Str.ofString (toString i)).length + 2 + mt.length ≤ _; omega
    · rw [empty_app]
      refine H _ _ ?_
      unfold lineText
      rw [PySem.Str.length_append, PySem.Str.length_append, PySem.Str.length_append]; show 5 + (PySem.Str.ofString (toString i)).length + 2 + mt.length ≤ _; omega
    · rw [empty_app, PySem.Str.length_append, PySem.Str.length_append, PySem.Str.length_append]; show 5 + (PySem.Str.ofString (toString i)).length + 2 + mt.length ≤ _; omega
end
end Mine
end

section
set_option Elab.async false
namespace Mine
open PySem PySem.W PySem.Calls PyProof.Rows

section
variable {prog : Program} {w : World} {b0 : Heap} {mg mb : PySem.Str → Option Value} {consts : String → Option V} {r : Rec} {n : Nat} {c : Cx} {E : List Addr} {φ : Frm} {Ω : List (String × Addr)} {s : Shared} {Q : Flow → Shared → Prop} {Ex : Value → Shared → Prop} {A : Around}

theorem ex_tryLine {t1 t2 v1 v2 v3 : Expr} {x er nu : String} {xp1 ap1 c1 p1 xp2 ap2 c2 p2 np3 c3 p3 q2 q1 vp np4 l1p nup nfp l2p erp efp jp c4 nkp p4 hp' p : Pos} {l1k l2k nk : Nat} {ti1 ti2 : TE} {e1 e2 m : IE}
    (S : Stat (prog, w) b0 mg mb consts) (hE : SEv prog w b0 r n) (hT : STs prog w b0 r n) (ok : c.Ok n) (fn : c.Fn) (hp : Passes prog w c Ex) (st : StS (prog, w) b0 c E φ Ω s.heap)
    (h1 : CT c.env.scope t1 ti1) (hx : LName c.env.scope x) (hl1 : (ap1.endLine == c1.line) = true) (hv1 : CE c.env.scope v1 e1) (h2 : CT c.env.scope t2 ti2) (hl2 : (ap2.endLine == c2.line) = true) (hv2 : CE c.env.scope v2 e2) (hve : GName c.env.scope "ValueError") (hv3 : CE c.env.scope v3 m)
    (hl : c.env.scope.names.lookup (nm er) = some .local) (hdbg : (nm er == ("__debug__" : PySem.Str)) = false) (h0 : er ≠ ".0") (hnu : LName c.env.scope nu) (hern : er ≠ nu)
    (H : G (exI r φ (.tryLine ti1 x e1 ti2 e2 m nu)) (ExPost (prog, w) b0 c E Ω s Q) (XPostS b0 c Ω s Ex)) :
    wpAny (model prog w) c.A (exec (.Try [.If t1 [.Expr (.Call (.Attribute (.Name (nm x) xp1) (nm "append") ap1) [v1] [] c1) p1] [.If t2 [.Expr (.Call (.Attribute (.Name (nm x) xp2) (nm "append") ap2) [v2] [] c2) p2] [.Raise (some (.Call (.Name (nm "ValueError") np3) [v3] [] c3)) Option.none p3] q2] q1]
        [.ExceptHandler (some (.Name (nm "ValueError") vp)) (some (nm er)) [.Raise (some (.Call (.Name (nm "ValueError") np4) [.JoinedStr [.Constant (.str (nm "line ")) l1k l1p, .FormattedValue (.Name (nm nu) nup) (-1) Option.none nfp, .Constant (.str (nm ": ")) l2k l2p, .FormattedValue (.Name (nm er) erp) (-1) Option.none efp] jp] [] c4)) (some (.Constant .none nk nkp)) p4] hp'] [] [] p) c.env) Q Ex s := by
  have hner : LName c.env.scope er := ⟨.inl hl, hdbg, h0⟩
  have hL : c.env.locals ∈ c.fs := by
    obtain ⟨outer, hs⟩ := fn.head
    unfold Cx.fs; rw [hs]; exact List.mem_filterMap.mpr ⟨c.env, .head _, fn.frame⟩
  refine wpAny_Try_except (one_stmt (try_body S hE hT ok st h1 hx hl1 hv1 h2 hl2 hv2 hve hv3 ?_))
  dsimp only [exI] at H
  cases hr : tryLineI r φ ti1 x e1 ti2 e2 m with
  | bad => rw [hr] at H; exact H.elim
  | ok q =>
    rw [hr] at H
    intro flow h' tk Ω' hfl k g st'
    have Hq := (show ExPost (prog, w) b0 c E Ω s Q q from H) flow h' tk Ω' hfl k g st'
    cases flow <;> first | exact wpAny_execs_nil Hq | exact Hq
  | exc mm =>
    rw [hr] at H
    obtain ⟨i, f, hi, hb, hml, hm2, Hx⟩ : ∃ i f, φ.lookup nu = some (.val (.int i) f) ∧ i.natAbs < 2 ^ 60 ∧ mm.1.length ≤ 100000 ∧ mm.2 = true ∧ XPostS b0 c Ω s Ex (lineText i mm.1, false) := by
      cases hlk : φ.lookup nu with
      | none => rw [hlk] at H; exact (show False from H).elim
      | some sl =>
        rw [hlk] at H
        cases sl with
        | acc => exact (show False from H).elim
        | tab => exact (show False from H).elim
        | gone => exact (show False from H).elim
        | val d f =>
          cases d <;> first | exact (show False from H).elim | skip
          rename_i i
          rcases G.ite (show G (if i.natAbs < 2 ^ 60 ∧ mm.1.length ≤ 100000 ∧ mm.2 = true then Res.exc (lineText i mm.1, false) else .bad) (ExPost (prog, w) b0 c E Ω s Q) (XPostS b0 c Ω s Ex) from H) with ⟨q, Hq⟩ | ⟨_, Hq⟩
          · exact ⟨i, f, rfl, q.1, q.2.1, q.2.2, Hq⟩
          · exact Hq.elim
    intro h₁ xa h' tk k₁ lit
    have st₁ := st.kp k₁
    refine lit_land (s := s) ok.frames fn st₁.st.ground lit fun h₂ fl₂ => ?_
    have st₂ := st₁.kp (fl₂.kpG st₁.st.ground)
    refine wpAny_handleBy_builtin_as (X := "ValueError") (T := "ValueError") (b := true) F.isExc_ValueError F.notTuple_ValueError F.self_ValueError ?_
    refine ld_boot (s := { s with heap := h₂, toks := tk }) S ok st₂.st hve (S.free _ (by decide)) boot_ve (by decide) ⟨rfl, ?_, ?_⟩
    · obtain ⟨t, tk', ⟨o, vs, e1, e2, e3, _⟩, _⟩ := fly_data fl₂ st₁
      exact ⟨o, e1, e2⟩
    · rw [if_pos rfl]
      refine fly_land (s := s) fl₂ fun h₃ fl₃ => ?_
      have k₃ := fl₃.kpG st₁.st.ground
      have st₃ := st₁.kp k₃
      refine put_gone (s := { s with heap := h₃, toks := tk }) ok st₃ hner fun h₄ tk₄ k₄ st₄ ⟨m', cm', l1, l2, l3⟩ => ?_
      obtain ⟨t, tk', ha, ht, nx, nt⟩ := fly_data fl₃ st₁
      have ha₄ := exc_kp k₄ (fun z => nx (own_Y z)) ha
      have ht₄ := tup_kp k₄ (fun z => nt (own_Y z)) ht
      obtain ⟨oc, vc, ec, dc, c2'⟩ := fl₃.ctx hm2
      have ec₄ : h₄.get? xa = some oc := by
        obtain ⟨o, vs, g1, g2, g3⟩ := ha
        rw [ec] at g1; cases g1
        exact k₄.same ec (fun z => nx (own_Y z)) (noFrame g2 (by decide))
      refine one_stmt ?_
      rw [arm_exec_Raise]
      refine wpAny_bind (wpAny_standAt (raise_from (h := xa) rfl (fun s Q hQ => wpAny_bind (wpAny_Constant_none (wpAny_bind (wpAny_standAt (wpAny_pure hQ))))) ?_))
      refine wpAny_bind (wpAny_Call_ofName (ld_boot (s := { s with heap := h₄, toks := tk₄ }) S ok st₄.st hve (S.free _ (by decide)) boot_ve (by decide) (callWith_excType rfl (evalArgs_plain ?_))))
      refine spliced_cons (line_text (jp := jp) (s := { s with heap := h₄, toks := tk₄ }) ok st₄ rfl hnu hner (by rw [upd_lookup, if_neg (Ne.symm hern)]; exact hi) hb l1 l2 l3 ha₄ ht₄ hml fun tt tk₅ hlen => spliced_nil ?_)
      refine wpAny_call_exc F.excCall_ValueError (fun h₅ e hm => ?_) (by rw [sizeLine_eq]; exact Nat.le_of_ble_eq_true rfl)
      obtain ⟨ta, g1, g2, g3⟩ := hm.there
      have hne : e ≠ xa := fun z => by have := hm.new; rw [z] at this; rw [show h₄.get? xa = none from this] at ec₄; cases ec₄
      refine wpAny_bind (wpAny_standAt (wpAny_pure ⟨e, ta, oc, vc, rfl, g1, hne, hm.keeps _ _ ec₄, dc, c2', fun h₆ hs₆ e₆ => ?_⟩))
      have hta : ta ≠ e := fun z => by
        rw [z, g1] at g3
        have q := congrArg Obj.cls (Option.some.inj g3)
        injection q with q
        exact absurd q (by decide)
      have raw : Raw h₄ e (lineText i mm.1, false) h₆ := by
        refine ⟨fun b o eb => ?_, hm.new, ⟨_, _, ta, tt, e₆, rfl, rfl, rfl, rfl, (fun z => nomatch z), g2, ⟨_, _, hs₆.extBut _ _ hta g3, rfl, rfl⟩⟩, hlen⟩
        refine hs₆.extBut _ _ (fun z => ?_) (hm.keeps b o eb)
        have := hm.new
        rw [z] at eb; rw [show h₄.get? e = none from this] at eb; cases eb
      refine lit_note (s := s) (c := c) (b0 := b0) ok.frames fn st₄.st.ground (.inr (.inl raw)) fun h₇ hx₇ => ?_
      have st₇ := st₄.kp (hx₇.kpG st₄.st.ground)
      refine gone_goes (s := { s with heap := h₇, toks := tk₅ }) ok st₇ hl (by rw [upd_lookup, if_pos rfl]) fun h₈ tk₈ k₈ st₈ hsb => ?_
      obtain ⟨o'', e'', hc''⟩ := st₈.st.fc c.env.locals hL
      obtain ⟨_, od, ed, hd''⟩ := st₈.st.ff.mem hL
      rw [e''] at ed; cases ed
      obtain ⟨h₂', hsb', g', hx'⟩ := hx₇.relocal fn st₄.st.ground hsb e'' hc'' hd'' (Heap.get?_some_iff.mp e'').2
      refine pass_on (s := s) fn hx' ?_
      refine hp.mark (some (.ref xa)) _ _ (Hx h₂' e h₈ tk₈ ?_ g' (.inr (.inr hx')))
      exact (((k₁.weak fun _ z => nomatch z).trans (k₃.weak fun _ z => nomatch z)).trans (k₄.weak fun _ => own_Y)).trans (Kp.of_same hsb' (own_Y (.head _)))
end
end Mine
end

section
set_option Elab.async false
namespace Mine
open PySem PySem.W PySem.Calls PyProof.Rows

theorem mkIf {sc : Scope} {e : Expr} {k : Nat} {ei : IE} {x : String} {it : It} {cond : Option TE} (h : toE (k + 1) e (.comp ei x it cond) = e) (o : condB (okT k sc (kid 3 e)) cond = true) : CIf sc (cond.toList.map (toT k (kid 3 e))) cond := by
  cases cond with
  | none => exact .inl ⟨rfl, rfl⟩
  | some t => exact .inr ⟨_, _, rfl, rfl, mkT (congrArg (kid 3) h) o⟩
section
variable {prog : Program} {w : World} {b0 : Heap} {mg mb : PySem.Str → Option Value} {consts : String → Option V} {r : Rec} {n : Nat}
/-- all expressions -/
theorem ev_sound (S : Stat (prog, w) b0 mg mb consts) (hE : SEv prog w b0 r n) (hT : STs prog w b0 r n) (hF : SFn prog w b0 mg r n) (hH : SHas b0 mg r) {r' : Rec} (hr : r'.ev = evI consts r) : SEv prog w b0 r' (n + 1) := by
  intro c E φ Ω s e i Q Ex ok' st he H
  rw [hr] at H
  have ok := ok'.le (Nat.le_succ n)
  obtain ⟨k, h, o⟩ := he.one
  have key : ∀ e', e' = e → wpAny (model prog w) c.A (eval e' c.env) Q Ex s → wpAny (model prog w) c.A (eval e c.env) Q Ex s := fun _ q z => q ▸ z
  cases i with
  | const v =>
    refine key _ h ?_
    cases v with
    | none => exact ev_none H
    | bool b => exact ev_bool H
    | int i => exact ev_int H
    | flt x => exact ev_flt H
    | str x => exact ev_str (shortB_ok o) H
    | tuple => cases o
    | list => cases o
    | dict => cases o
  | var x => exact key _ h (ev_var ok st (lnB_ok o) H)
  | glob x => exact key _ h (ev_glob S ok st (gnB_ok o) H)
  | bin op a b => exact key _ h (ev_bin hE ok st (opOf_ok op) (mkE (congrArg (kid 0) h) (and_ok o).1) (mkE (congrArg (kid 1) h) (and_ok o).2) H)
  | neg a => exact key _ h (ev_neg hE ok st (mkE (congrArg (kid 0) h) o) H)
  | orv a b => exact key _ h (ev_orv hE ok st (mkE (congrArg (kid 0) h) (and_ok o).1) (mkE (congrArg (kid 1) h) (and_ok o).2) H)
  | ife t a b =>
    obtain ⟨o1, o2⟩ := and_ok o
    exact key _ h (ev_ife hE hT ok st (mkT (congrArg (kid 0) h) o1) (mkE (congrArg (kid 1) h) (and_ok o2).1) (mkE (congrArg (kid 2) h) (and_ok o2).2) H)
  | call f is => exact key _ h (ev_call S hE hF hH ok st (gnB_ok (and_ok o).1) (mkEs (congrArg args h) (and_ok o).2) H)
  | len a => exact key _ h (ev_len S hE ok st (gnB_ok (and_ok o).1) (mkE (congrArg (kid 1) h) (and_ok o).2) H)
  | strOf a => exact key _ h (ev_strOf S hE ok st (gnB_ok (and_ok o).1) (mkE (congrArg (kid 1) h) (and_ok o).2) H)
  | intOf a => exact key _ h (ev_intOf S hE ok st (gnB_ok (and_ok o).1) (mkE (congrArg (kid 1) h) (and_ok o).2) H)
  | dictOf x => exact key _ h (ev_dictOf S ok st (gnB_ok (and_ok o).1) (lnB_ok (and_ok o).2) H)
  | isinst a T =>
    obtain ⟨o1, o2⟩ := and_ok o
    exact key _ h (ev_isinst S hE ok st (gnB_ok o1) (gnB_ok (and_ok o2).1) (mkE (congrArg (kid 1) h) (and_ok o2).2) H)
  | meth m a is =>
    obtain ⟨o1, o2⟩ := and_ok o
    obtain ⟨o2, o3⟩ := and_ok o2
    obtain ⟨o3, o4⟩ := and_ok o3
    have e0 : toE k (kid 0 (kid 0 e)) a = kid 0 (kid 0 e) := congrArg (fun z => kid 0 (kid 0 z)) h
    exact key _ h (ev_meth hE ok st (by rw [zip_len', of_decide_eq_true o1]; exact mthN_ok m) (by rw [e0]; exact baseB_ok o2) o3 (mkE (congrArg (fun z => kid 0 (kid 0 z)) h) (and_ok o4).1) (mkEs (congrArg args h) (and_ok o4).2) H)
  | items x => exact key _ h (ev_items S ok st (gnB_ok (and_ok o).1) (lnB_ok (and_ok (and_ok o).2).1) (and_ok (and_ok o).2).2 H)
  | index a i => exact key _ h (ev_index hE ok st (mkE (congrArg (kid 0) h) (and_ok o).1) (mkE (congrArg (kid 1) h) (and_ok o).2) H)
  | upto a i => exact key _ h (ev_upto hE ok st (mkE (congrArg (kid 0) h) (and_ok o).1) (mkE (congrArg (fun z => kid 0 (kid 1 z)) h) (and_ok o).2) H)
  | behind a i => exact key _ h (ev_behind hE ok st (mkE (congrArg (kid 0) h) (and_ok o).1) (mkE (congrArg (fun z => kid 0 (kid 1 z)) h) (and_ok o).2) H)
  | list is => exact key _ h (ev_list hE ok st (mkEs (congrArg (fun z => (look z).1) h) o) H)
  | tuple is => exact key _ h (ev_tuple hE ok st (mkEs (congrArg (fun z => (look z).1) h) o) H)
  | comp ei x it cond =>
    obtain ⟨o1, o2⟩ := and_ok o
    obtain ⟨o2, o3⟩ := and_ok o2
    exact key _ h (ev_comp S hE hT ok (csB_ok o1) st (mkI (congrArg (kid 2) h) o2) (mkE (congrArg (kid 0) h) (and_ok o3).1) (mkIf h (and_ok o3).2) H)
  | fstr ps =>
    obtain ⟨o1, o2⟩ := and_ok o
    have o1 := of_decide_eq_true o1
    have hf := mkFs (congrArg (fun z => (look z).1) h) o2
    refine key _ h ?_
    cases ps with
    | nil => cases o1
    | cons p ps => cases ps with
      | nil => exact absurd o1 (by show ¬ 2 ≤ 1; decide)
      | cons q ps => exact ev_fstr hE ok st hf H
theorem ts_sound' (S : Stat (prog, w) b0 mg mb consts) (hE : SEv prog w b0 r n) (hT : STs prog w b0 r n) {r' : Rec} (hr : r'.ts = tsI r) : STs prog w b0 r' (n + 1) := by
  intro c E φ Ω s e t Q Ex ok' st he H
  rw [hr] at H
  exact ts_sound S hE hT (ok'.le (Nat.le_succ n)) st he H
/-- what stands at one level -/
structure All (prog : Program) (w : World) (b0 : Heap) (mg : PySem.Str → Option Value) (r : Rec) (n : Nat) : Prop where
  ev : SEv prog w b0 r n
  ts : STs prog w b0 r n
  ex : SEx prog w b0 r n
  fn : SFn prog w b0 mg r n
  fm : SFm prog w b0 mg r n
  has : SHas b0 mg r
theorem ex_sound (S : Stat (prog, w) b0 mg mb consts) (hA : All prog w b0 mg r n) (hC : (∀ φ i, r.ev φ i = .bad) ∨ ∃ r₀, r.ev = evI consts r₀ ∧ SEv prog w b0 r₀ n ∧ STs prog w b0 r₀ n) {r' : Rec} (hr : r'.ex = exI r) : SEx prog w b0 r' (n + 1) := by
  intro c E φ Ω s a i Q Ex ok' fn hp st ha H
  rw [hr] at H
  have ok := ok'.le (Nat.le_succ n)
  obtain ⟨k, h, o⟩ := ha.one
  have key : ∀ a', a' = a → wpAny (model prog w) c.A (exec a' c.env) Q Ex s → wpAny (model prog w) c.A (exec a c.env) Q Ex s := fun _ q z => q ▸ z
  cases i with
  | assign x e =>
    obtain ⟨o1, o2⟩ := and_ok o
    have hv := congrArg (sk 0) h
    by_cases hc : isComp e = true
    · cases e <;> first | cases hc | skip
      rename_i ei y it cond
      cases k with
      | zero => cases o2
      | succ k =>
        obtain ⟨c1, c2⟩ := and_ok o1
        obtain ⟨c2, c3⟩ := and_ok c2
        obtain ⟨l1, l2, l3⟩ := loB_ok c1
        obtain ⟨o2, o3⟩ := and_ok o2
        obtain ⟨o3, o4⟩ := and_ok o3
        refine key _ h ?_
        dsimp only [exI] at H
        rcases hC with hb | ⟨r₀, e, hE, hT⟩
        · rw [hb] at H; exact H.elim
        · rw [e] at H
          exact ex_assignComp S hE hT ok st l1 l2 l3 c2 (Bool.not_eq_true' _ ▸ c3) (csB_ok o2) (mkI (congrArg (kid 2) hv) o3) (mkE (congrArg (kid 0) hv) (and_ok o4).1) (mkIf hv (and_ok o4).2) H
    · have hc : isComp e = false := Bool.eq_false_iff.mpr hc
      exact key _ h (ex_assign hA.ev ok st (asB_ok o1 hc) (mkE hv o2) hc H)
  | unpack xs e =>
    obtain ⟨o1, o2⟩ := and_ok o
    exact key _ h (ex_unpack hA.ev ok st (nmsB_ok o1) (mkE (congrArg (sk 0) h) (and_ok o2).2) (Bool.not_eq_true' _ ▸ (and_ok o2).1) H)
  | newAcc x => exact key _ h (ex_newAcc ok st (lnB_ok o) H)
  | newTab x => exact key _ h (ex_newTab S ok st (lnB_ok o) H)
  | append x e =>
    obtain ⟨o1, o2⟩ := and_ok o
    exact key _ h (ex_append0 hA.ev ok st (lnB_ok o1) (and_ok o2).1 (mkE (congrArg (fun z => kid 1 (sk 0 z)) h) (and_ok o2).2) (G.mono (res := appI r φ x e) H (fun _ _ z => z) fun _ _ X => X.low st.st))
  | appendMut x f t es =>
    obtain ⟨o1, o2⟩ := and_ok o
    obtain ⟨o2, o3⟩ := and_ok o2
    obtain ⟨o3, o4⟩ := and_ok o3
    exact key _ h (ex_appendMut S hA.ev hA.fm hA.has ok st (lnB_ok o1) o2 (gnB_ok o3) (lnB_ok (and_ok o4).1) (mkEs (congrArg (fun z => (args (kid 1 (sk 0 z))).tail) h) (and_ok o4).2) H)
  | setKey t k e =>
    obtain ⟨o1, o2⟩ := and_ok o
    exact key _ h (ex_setKey hA.ev ok st (lnB_ok o1) (mkE (congrArg (fun z => kid 1 (sk 1 z)) h) (and_ok o2).1) (mkE (congrArg (sk 0) h) (and_ok o2).2) H)
  | popTo y t k =>
    obtain ⟨o1, o2⟩ := and_ok o
    obtain ⟨o2, o3⟩ := and_ok o2
    exact key _ h (ex_popTo hA.ev ok st (lnB_ok o1) (lnB_ok o2) (and_ok o3).1 (mkE (congrArg (fun z => kid 1 (sk 0 z)) h) (and_ok o3).2) H)
  | popKey t k =>
    obtain ⟨o1, o2⟩ := and_ok o
    exact key _ h (ex_popKey hA.ev ok st (lnB_ok o1) (and_ok o2).1 (mkE (congrArg (fun z => kid 1 (sk 0 z)) h) (and_ok o2).2) H)
  | delKey t k => exact key _ h (ex_delKey hA.ev ok st (lnB_ok (and_ok o).1) (mkE (congrArg (fun z => kid 1 (sk 0 z)) h) (and_ok o).2) H)
  | ite t a b =>
    obtain ⟨o1, o2⟩ := and_ok o
    exact key _ h (ex_ite hA.ts hA.ex ok fn hp st (mkT (congrArg (sk 0) h) o1) (mkB (congrArg (fun z => (slook z).2.1) h) (and_ok o2).1) (mkB (congrArg (fun z => (slook z).2.2.1) h) (and_ok o2).2) H)
  | for1 x it is =>
    obtain ⟨o1, o2⟩ := and_ok o
    obtain ⟨o2, o3⟩ := and_ok o2
    exact key _ h (ex_for1 S hA.ev hA.ex ok fn hp st (lnB_ok o1) o2 (mkI (congrArg (sk 1) h) (and_ok o3).1) (mkB (congrArg (fun z => (slook z).2.1) h) (and_ok o3).2) H)
  | forN xs it is =>
    obtain ⟨o1, o2⟩ := and_ok o
    obtain ⟨o2, o3⟩ := and_ok o2
    have hb := mkB (congrArg (fun z => (slook z).2.1) h) o3
    refine key _ h ?_
    by_cases hs : it.simple = true
    · exact ex_forN S hA.ev hA.ex ok fn hp st (nmsB_ok o1) hs (mkI (congrArg (sk 1) h) (by cases it <;> first | exact o2 | cases hs)) hb H
    · cases it <;> first | exact absurd rfl hs | skip
      rename_i i
      obtain ⟨z1, z2⟩ := and_ok o2
      obtain ⟨c2, c3⟩ := and_ok z2
      have m1 := List.all_eq_true.mp (and_ok o1).1
      have m2 := of_decide_eq_true (and_ok o1).2
      have c1 := of_decide_eq_true z1
      cases k with
      | zero => cases c3
      | succ k =>
        cases xs with
        | nil => cases c1
        | cons x xs => cases xs with
          | nil => cases c1
          | cons y xs => cases xs with
            | cons z xs => cases c1
            | nil => exact ex_forE S hA.ev hA.ex ok fn hp st (lnB_ok (m1 x (.head _))) (lnB_ok (m1 y (.tail _ (.head _)))) (fun q => (List.nodup_cons.mp m2).1 (q ▸ .head _)) (gnB_ok c2) (mkE (congrArg (fun z => kid 1 (sk 1 z)) h) c3) hb H
  | ret e => exact key _ h (ex_ret hA.ev ok st (mkE (congrArg (sk 0) h) o) H)
  | raise e => exact key _ h (ex_raise0 S hA.ev ok st (gnB_ok (and_ok o).1) (mkE (congrArg (fun z => kid 1 (sk 0 z)) h) (and_ok o).2) (G.mono (res := raiseI r φ e) H (fun _ _ z => z) fun _ _ X => X.low st.st))
  | tryStr x e y er =>
    obtain ⟨z0, z1⟩ := and_ok o
    obtain ⟨o1, z2⟩ := and_ok z1
    obtain ⟨o2, z3⟩ := and_ok z2
    obtain ⟨o3, z4⟩ := and_ok z3
    obtain ⟨o4, z5⟩ := and_ok z4
    obtain ⟨o5, o6⟩ := and_ok z5
    obtain ⟨k, rfl⟩ : ∃ m, k = m + 5 := ⟨k - 5, (Nat.sub_add_cancel (of_decide_eq_true z0)).symm⟩
    obtain ⟨l1, l2, l3⟩ := loB_ok o2
    have hc : isComp e = false := Bool.not_eq_true' _ ▸ o4
    obtain ⟨a1, a2⟩ := and_ok o5
    obtain ⟨b1, b2⟩ := and_ok o6
    exact key _ h (ex_tryStr S hA.ev ok fn st (asB_ok a1 hc) (mkE (congrArg (fun z => sk 0 (body0 z)) h) a2) hc (gnB_ok o1) l1 l2 l3 (lnB_ok b1) (gnB_ok (and_ok b2).1) (of_decide_eq_true o3) H)
  | tryLine t1 x e1 t2 e2 m nu =>
    obtain ⟨z0, z1⟩ := and_ok o
    obtain ⟨o1, z2⟩ := and_ok z1
    obtain ⟨o2, z3⟩ := and_ok z2
    obtain ⟨o3, o4⟩ := and_ok z3
    obtain ⟨k, rfl⟩ : ∃ m, k = m + 5 := ⟨k - 5, (Nat.sub_add_cancel (of_decide_eq_true z0)).symm⟩
    obtain ⟨l1, l2, l3⟩ := loB_ok o1
    obtain ⟨a1, a2⟩ := and_ok o4
    obtain ⟨a2, a3⟩ := and_ok a2
    obtain ⟨p1, p2⟩ := and_ok (and_ok a2).1
    obtain ⟨a3, _⟩ := and_ok a3
    obtain ⟨b1, b2⟩ := and_ok a3
    obtain ⟨b2, b3⟩ := and_ok b2
    obtain ⟨q1, q2⟩ := and_ok (and_ok b2).1
    obtain ⟨r1, r2⟩ := and_ok (and_ok b3).1
    exact key _ h (ex_tryLine S hA.ev hA.ts ok fn hp st (mkT (congrArg (fun z => sk 0 (body0 z)) h) a1) (lnB_ok p1) (and_ok p2).1 (mkE (congrArg (fun z => kid 1 (sk 0 (body0 (body0 z)))) h) (and_ok p2).2)
      (mkT (congrArg (fun z => sk 0 ((slook (body0 z)).2.2.1.headD default)) h) b1) (and_ok q2).1 (mkE (congrArg (fun z => kid 1 (sk 0 (body0 ((slook (body0 z)).2.2.1.headD default)))) h) (and_ok q2).2)
      (gnB_ok r1) (mkE (congrArg (fun z => kid 1 (sk 0 ((slook ((slook (body0 z)).2.2.1.headD default)).2.2.1.headD default))) h) r2) l1 l2 l3 (lnB_ok o2) (of_decide_eq_true o3) H)
  | pickFirst x y t => exact key _ h (ex_pickFirst ok hp st (lnB_ok (and_ok o).1) (lnB_ok (and_ok (and_ok o).2).1) (lnB_ok (and_ok (and_ok o).2).2) H)
  | guardAny x e k T yes => cases o
  | cont => exact key _ h (ex_cont st H)
  | brk => exact key _ h (ex_brk st H)
theorem SEv.le {m : Nat} (h : SEv prog w b0 r n) (hm : n ≤ m) : SEv prog w b0 r m := fun c E φ Ω s e i Q Ex ok => h c E φ Ω s e i Q Ex (ok.le hm)
theorem STs.le {m : Nat} (h : STs prog w b0 r n) (hm : n ≤ m) : STs prog w b0 r m := fun c E φ Ω s e i Q Ex ok => h c E φ Ω s e i Q Ex (ok.le hm)
variable {tbl : Tbl}
/-- the small language is sound -/
theorem all_sound (S : Stat (prog, w) b0 mg mb consts) (hT : TblOk b0 mg tbl) (n : Nat) : All prog w b0 mg (recN tbl consts n) n ∧ ((∀ φ i, (recN tbl consts n).ev φ i = .bad) ∨ ∃ r₀, (recN tbl consts n).ev = evI consts r₀ ∧ SEv prog w b0 r₀ n ∧ STs prog w b0 r₀ n) := by
  induction n with
  | zero => exact ⟨⟨fun _ _ _ _ _ _ _ _ _ _ _ _ H => H.elim, fun _ _ _ _ _ _ _ _ _ _ _ _ H => H.elim, fun _ _ _ _ _ _ _ _ _ _ _ _ _ _ H => H.elim, fun _ _ _ _ _ _ _ _ _ _ _ _ _ _ _ H => H.elim, fun _ _ _ _ _ _ _ _ _ _ _ _ _ _ _ _ _ _ _ _ _ _ _ H => H.elim, fun _ h => nomatch h⟩, .inl fun _ _ => rfl⟩
  | succ n ih =>
    obtain ⟨hA, hC⟩ := ih
    refine ⟨⟨ev_sound S hA.ev hA.ts hA.fn hA.has rfl, ts_sound' S hA.ev hA.ts rfl, ex_sound S hA hC rfl, fn_sound S hT hA.ex rfl, fm_sound S hT hA.ex rfl, ?_⟩, .inr ⟨_, rfl, hA.ev.le (Nat.le_succ n), hA.ts.le (Nat.le_succ n)⟩⟩
    intro f h
    have h : (tbl f).isSome = true := h
    cases ht : tbl f with
    | none => rw [ht] at h; cases h
    | some q =>
      obtain ⟨ps, body⟩ := q
      obtain ⟨fa, hm, hF⟩ := hT f ps body ht
      obtain ⟨o, fd, _, ho, hd, _⟩ := hF.ex
      exact ⟨fa, o, fd, hm, ho, hd⟩
end
end Mine
end

section
set_option Elab.async false
namespace Mine
open PySem PySem.W PySem.Calls PyProof.Rows

/-! ## from the top of the text to what the walk asks -/
noncomputable def optAll {α β : Type} (f : α → Option β) : List α → Option (List β)
  | [] => some []
  | x :: xs => (f x).bind fun d => (optAll f xs).map fun ds => d :: ds
noncomputable def litV : Nat → WData → Option V
  | 0, _ => none
  | n + 1, d => match d with
    | .none => some .none
    | .bool b => some (.bool b)
    | .int i => some (.int i)
    | .str x => if shortB x then some (.str x) else Option.none
    | .tuple xs => (optAll (litV n) xs).bind fun ds => if decide (ds.length ≤ 1000) then some (.tuple ds) else Option.none
    | _ => Option.none
theorem big_size : 100000 ≤ sizeLine := by rw [sizeLine_eq]; decide
theorem if_some {α : Type} {b : Bool} {x y : α} (h : (if b then some x else none) = some y) : b = true ∧ x = y := by
  cases b with
  | true => exact ⟨rfl, Option.some.inj h⟩
  | false => cases h
section
variable {P : Program × World} {Rc : WRecords} {cl : PySem.Str → Option Addr} {h : Heap}
theorem lits_RA {f : WData → Option V} (H : ∀ {v : Value} {d : WData} {as : List Addr} {dv : V}, ReadsW Rc cl h v d as → f d = some dv → R P (fun _ => True) h v dv) {ds : List WData} : ∀ {vs : List Value} {as : List Addr} {dvs : List V}, ReadsAllW Rc cl h vs ds as → optAll f ds = some dvs → RA P (fun _ => True) h vs dvs := by
  induction ds with
  | nil => intro vs as dvs hr e; cases hr; cases e; exact .nil
  | cons d ds ih =>
    intro vs as dvs hr e
    cases hr with
    | cons a b =>
      obtain ⟨x, h1, e⟩ := Option.bind_eq_some_iff.mp e
      obtain ⟨xs, h2, e⟩ := Option.map_eq_some_iff.mp e
      cases e
      exact .cons (H a h1) (ih b h2)
theorem lit_R {n : Nat} : ∀ {v : Value} {d : WData} {as : List Addr} {dv : V}, ReadsW Rc cl h v d as → litV n d = some dv → R P (fun _ => True) h v dv := by
  induction n with
  | zero => intro v d as dv _ e; cases e
  | succ n ih =>
    intro v d as dv hr e
    cases hr with
    | none => cases e; exact .none
    | bool b => cases e; exact .bool b
    | int i t => cases e; exact .int i t
    | str x t =>
      obtain ⟨q, rfl⟩ := if_some e
      exact .str _ _ (shortB_ok q)
    | tuple h1 h2 h3 h4 =>
      obtain ⟨ds, h5, e⟩ := Option.bind_eq_some_iff.mp e
      obtain ⟨q, rfl⟩ := if_some e
      have ra := lits_RA ih h4 h5
      exact .tuple trivial h1 h2 h3 (ra.length ▸ Nat.le_trans (of_decide_eq_true q) (Nat.le_trans (by decide) big_size)) ra
    | _ => cases e
end
noncomputable def bindOk (ps : List String) : Prop := ∀ (name : PySem.Str) (args : List Arg) (body : List Stmt) (scope : Scope) (pm code doc : Value) (vals : List Value), args.map (·.arg) = ps.map nm → vals.length = ps.length →
  bindArgs (docDef name ⟨[], args, none, [], [], none, []⟩ body scope pm code doc) ⟨vals, []⟩ = pure ((ps.map nm).zip vals)
noncomputable def parB (a : Arguments) (ps : List String) : Bool := a.posonlyargs.isEmpty && (a.vararg.isNone && (a.kwonlyargs.isEmpty && (a.kw_defaults.isEmpty && (a.kwarg.isNone && (a.defaults.isEmpty && a.args.map (·.arg) == ps.map nm)))))
theorem parB_ok {a : Arguments} {ps : List String} (h : parB a ps = true) : a = ⟨[], a.args, none, [], [], none, []⟩ ∧ a.args.map (·.arg) = ps.map nm := by
  obtain ⟨h1, h⟩ := and_ok h
  obtain ⟨h2, h⟩ := and_ok h
  obtain ⟨h3, h⟩ := and_ok h
  obtain ⟨h4, h⟩ := and_ok h
  obtain ⟨h5, h⟩ := and_ok h
  obtain ⟨h6, h⟩ := and_ok h
  obtain ⟨a1, a2, a3, a4, a5, a6, a7⟩ := a
  refine ⟨?_, eq_of_beq h⟩
  cases List.isEmpty_iff.mp h1
  cases Option.isNone_iff_eq_none.mp h2
  cases List.isEmpty_iff.mp h3
  cases List.isEmpty_iff.mp h4
  cases Option.isNone_iff_eq_none.mp h5
  cases List.isEmpty_iff.mp h6
  rfl
noncomputable def dOf (p : Program) (f : String) : Option DefRec := (recsOf p).find? fun d => d.name == nm f
noncomputable def bodyOf (p : Program) (f : String) : List Stmt := match dOf p f with
  | some d => d.body
  | none => []
noncomputable def defB (p : Program) (f : String) (ps : List String) (body : List IS) : Bool := match dOf p f with
  | some d => parB d.params ps && (decide (d.scope.kind = .function ∧ d.scope.isCoroutine = false ∧ d.scope.isGenerator = false ∧ ((cellsFrom 0 d.scope.names []).map (·.1)).Nodup ∧ ps.Nodup) && (ps.all (lnB d.scope) && zipB (okS 60 d.scope) body d.body))
  | none => false
theorem defB_ok {p : Program} {loose : List PySem.Str} {mean : ExcName → Option Value} {mg mb : PySem.Str → Option Value} {h : Heap} (T : Top p loose mean mg mb h) {f : String} {ps : List String} {body : List IS} (hb : bindOk ps) (hk : defB p f ps body = true) (he : zipW (toS 60) body (bodyOf p f) = bodyOf p f) : ∃ fa, mg (nm f) = some (.ref fa) ∧ FnOk h fa ps body := by
  unfold defB at hk
  unfold bodyOf at he
  cases hf : dOf p f with
  | none => rw [hf] at hk; cases hk
  | some d =>
    rw [hf] at hk he
    have he : zipW (toS 60) body d.body = d.body := he
    obtain ⟨k1, k⟩ := and_ok hk
    obtain ⟨k', k⟩ := and_ok k
    obtain ⟨k7, k8⟩ := and_ok k
    obtain ⟨k2, k3, k4, k5, k6⟩ := of_decide_eq_true k'
    have hm := List.mem_of_find?_eq_some hf
    have hn : d.name = nm f := eq_of_beq (List.find?_some (p := fun d : DefRec => d.name == nm f) hf)
    obtain ⟨ha, hargs⟩ := parB_ok k1
    obtain ⟨fa, o, pm, code, doc, e1, e2, e3, e4⟩ := T.fn d hm
    rw [hn] at e1
    refine ⟨fa, e1, ⟨⟨o, _, d.body, e2, e3, rfl, rfl, rfl, rfl, k2, k3, k4, e4, fun s vals hl => BindsTo.of_eq ?_, fun q hq => lnB_ok (List.all_eq_true.mp k7 q hq), k5, by have q := mkB he k8; rw [he] at q; exact q⟩, k6⟩⟩
    rw [ha]
    exact hb _ _ _ _ _ _ _ _ hargs hl
/-- the names that no line binds -/
noncomputable def freeB (p : Program) (loose : List PySem.Str) : Bool := ["len", "str", "int", "list", "dict", "isinstance", "type", "bool", "reversed", "enumerate", "range", "ValueError"].all fun x =>
  !startupNames.contains (nm x) && !loose.contains (nm x) && !((recsOf p).map (·.name)).contains (nm x) && !((litsOf p).map (·.1)).contains (nm x) && !((clssOf p loose).map (·.name)).contains (nm x)
theorem freeB_ok {p : Program} {loose : List PySem.Str} {mean : ExcName → Option Value} {mg mb : PySem.Str → Option Value} {h : Heap} (T : Top p loose mean mg mb h) (hf : freeB p loose = true) : ∀ x ∈ ["len", "str", "int", "list", "dict", "isinstance", "type", "bool", "reversed", "enumerate", "range", "ValueError"], mg (nm x) = none := by
  intro x hx
  have q := List.all_eq_true.mp hf x hx
  simp only [Bool.and_eq_true, Bool.not_eq_true', List.contains_eq_mem, decide_eq_false_iff_not] at q
  exact T.free _ q.1.1.1.1 q.1.1.1.2 q.1.1.2 q.1.2 q.2
/-- a constant of the top -/
noncomputable def intV : PyData → Option V
  | .int i => some (.int i)
  | .str x => if shortB x then some (.str x) else none
  | _ => none
noncomputable def conB (p : Program) (lv : List (PySem.Str × WData)) (x : String) : Option V := match (lv ++ wlitsOf p).find? fun c => c.1 == nm x with
  | some c => litV 9 c.2
  | none => (valOf p (nm x)).bind intV
theorem conB_ok {P : Program × World} {p : Program} {loose : List PySem.Str} {mean : ExcName → Option Value} {mg mb : PySem.Str → Option Value} {h : Heap} {lv : List (PySem.Str × WData)} (T : Top p loose mean mg mb h) (W : TopW p mg h) (L : LooseAre lv mg h) {x : String} {d : V} (hd : conB p lv x = some d) : ∃ v, mg (nm x) = some v ∧ R P (fun _ => True) h v d := by
  unfold conB at hd
  cases hc : (lv ++ wlitsOf p).find? fun c => c.1 == nm x with
  | none =>
    rw [hc] at hd
    obtain ⟨q, hi, hd⟩ := Option.bind_eq_some_iff.mp hd
    obtain ⟨v, e, r⟩ := T.const _ _ hi
    have r := r h
    cases q <;> first | (cases hd; done) | skip
    · cases hd; cases r; exact ⟨_, e, .int _ _⟩
    · obtain ⟨q, rfl⟩ := if_some hd
      cases r; exact ⟨_, e, .str _ _ (shortB_ok q)⟩
  | some c =>
    rw [hc] at hd
    have hm := List.mem_of_find?_eq_some hc
    have hn : c.1 = nm x := eq_of_beq (List.find?_some (p := fun c : PySem.Str × WData => c.1 == nm x) hc)
    rcases List.mem_append.mp hm with hm | hm
    · obtain ⟨v, e, r⟩ := L.val c hm
      exact ⟨v, hn ▸ e, lit_R r hd⟩
    · obtain ⟨v, e, r⟩ := W.lits c hm
      exact ⟨v, hn ▸ e, lit_R r hd⟩
end Mine
end

section
set_option Elab.async false
set_option maxRecDepth 100000
namespace Mine
open PySem PySem.W PySem.Calls PyProof.Rows

theorem code_at {h h' : Heap} {c P : Addr} {ps : Array Value} (x : h.IsCode c P ps) (hk : ∀ b o, b = c ∨ b = P → h.get? b = some o → h'.get? b = some o) : h'.IsCode c P ps :=
  x.imp fun _ => Exists.imp fun _ => Exists.imp fun _ => Exists.imp fun _ => Exists.imp fun _ => Exists.imp fun _ => Exists.imp fun _ => Exists.imp fun _ => Exists.imp fun _ => Exists.imp fun _ =>
    And.imp (hk _ _ (.inl rfl)) (And.imp id (And.imp id (And.imp id (And.imp id (And.imp id (And.imp id (And.imp (hk _ _ (.inr rfl)) id)))))))
theorem table_to {h h' : Heap} {c P : Addr} {ps : Array Value} (x : h.TableAt c P ps) (hk : ∀ b o, b = c ∨ b = P → h.get? b = some o → h'.get? b = some o) : h'.TableAt c P ps :=
  let ⟨⟨o, vs, a, r⟩, t⟩ := x; ⟨⟨o, vs, hk _ _ (.inl rfl) a, r⟩, hk _ _ (.inr rfl) t⟩
/-- the law's code and its table, the module of the built-ins -/
structure CodeSt (h : Heap) (c P : Addr) (ps : Array Value) (g : Addr) (mg : PySem.Str → Option Value) (bm : Addr) (ob : Obj) : Prop where
  code : h.IsCode c P ps
  tab : h.TableAt c P ps
  bmod : BMod h g mg bm ob
  lim : h.NoLimit
section
variable {prog : Program} {w : World} {A : Around} {E : Value → Shared → Prop} {s : Shared} {c P : Addr} {ps : Array Value} {mg : PySem.Str → Option Value} {bm : Addr} {ob : Obj}
theorem any_gen {env : Env} {elt iter : Expr} {x : PySem.Str} {px pos : Pos} {scope : Scope} {cl : List (PySem.Str × Addr)} {Q : Value → Shared → Prop}
    (hcode : env.code = .ref c) (hnf : codeAmong pos ps.toList = none)
    (hh : A.handled = none) (hco : scope.isCoroutine = false) (hclos : closureFor scope env = pure cl) (hcell : ∀ y ∈ scope.names, y.2 ≠ .cell) (h0 : scope.names.lookup (".0" : PySem.Str) = some NameKind.local)
    (hx : scope.names.lookup x = some .local) (hkind : scope.kind = .function) (hroom : A.depth < recursionLimit)
    (h : wpAny (model prog w) A (eval iter env) (fun xv s₁ => ∃ l items, xv = .ref l ∧ s₁.heap.IsList l items ∧ CodeSt s₁.heap c P ps env.globals mg bm ob ∧ AllBare s₁.gens ∧
        (∀ (cenv : Env) (A' : Around) (E' : Value → Shared → Prop) (i : Nat) (v : Value) (s₂ : Shared) (m₂ : PySem.Str → Option Value), cenv.scope = scope → cenv.globals = env.globals → cenv.builtins = builtinsNs → A'.handled = none → items[i]? = some v → s₂.heap.Ns cenv.locals m₂ → m₂ x = some v → (∀ b o, b ≠ P → s₁.heap.get? b = some o → s₂.heap.get? b = some o) →
          wpAny (model prog w) A' (eval elt cenv) (fun y s₃ => y = .bool false ∧ Keeps s₂ s₃) E' s₂) ∧
        (∀ (c' : Addr) (s' : Shared), (∀ b o, b ≠ P → s₁.heap.get? b = some o → s'.heap.get? b = some o) → CodeSt s'.heap c P (ps ++ #[rawInt pos.line, rawInt pos.col, .ref c']) env.globals mg bm ob → AllBare s'.gens → s'.os = s₁.os → s'.drawn = s₁.drawn → Q (.bool false) s')) E s)
    (hs : ∀ x, genFold iter env x = pure x) :
    wpAny (model prog w) A (eval (.GeneratorExp elt [⟨.Name x px, iter, [], 0⟩] scope pos) env) (fun g s₅ => wpAny (model prog w) A (call (.builtin "any") [g]) Q E s₅) E s := by
  refine wpAny_GeneratorExp_walksQ hh hco hclos hcell h0 hx hkind hroom (wpAny_mono h (fun xv s₁ h₁ => ?_) fun _ _ e => e) hs
  obtain ⟨l, items, rfl, hl, C₁, G₁, helt, hQ⟩ := h₁
  have hlt : l < s₁.heap.objs.size := by obtain ⟨_, e, _⟩ := hl; exact Heap.lt_size e
  have hPlt : P < s₁.heap.objs.size := Heap.lt_size C₁.tab.2
  have hclt : c < s₁.heap.objs.size := by obtain ⟨⟨_, _, e, _⟩, _⟩ := C₁.tab; exact Heap.lt_size e
  have hlP : l ≠ P := fun e => by
    obtain ⟨o, ho, hc, _⟩ := hl
    rw [e, C₁.tab.2] at ho; cases ho; exact absurd hc (by simp)
  have hcP : cStatics ≠ P := fun e => by
    obtain ⟨_, hns, _⟩ := C₁.lim
    obtain ⟨o, es, ep, ho, hd, _⟩ := hns
    rw [e, C₁.tab.2] at ho; cases ho; cases hd
  have hclt' : cStatics < s₁.heap.objs.size := let ⟨_, hn, _⟩ := C₁.lim; hn.lt
  refine wpAny_pyIter_list hl ?_
  have kp : ∀ b o, s₁.heap.get? b = some o → (s₁.heap.push { cls := .type "list_iterator", data := .fields #[.ref l, .int 0 0] }).get? b = some o := fun b o e => Heap.get?_push_of_some _ e
  have hsz : (s₁.heap.push { cls := .type "list_iterator", data := .fields #[.ref l, .int 0 0] }).objs.size = s₁.heap.objs.size + 1 := Heap.size_push ..
  have hIt : (s₁.heap.push { cls := .type "list_iterator", data := .fields #[.ref l, .int 0 0] }).IsListIter s₁.heap.objs.size l 0 := ⟨_, Heap.get?_push_size _ rfl, rfl, rfl⟩
  generalize s₁.heap.push { cls := .type "list_iterator", data := .fields #[.ref l, .int 0 0] } = h₂ at kp hsz hIt ⊢
  refine ⟨C₁.lim.keeps kp, wpAny_genexprCodeX hcode (C₁.code.keeps kp) (C₁.tab.keeps kp) hnf fun c' h₃ tk₃ hx₃ hge hlt₃ hcode₃ _ htab₃ _ => ?_⟩
  have hsz₃ : h₂.objs.size ≤ h₃.objs.size := Nat.le_trans hge (Nat.le_of_lt hlt₃)
  have hle₃ : s₁.heap.objs.size ≤ h₃.objs.size := Nat.le_trans (Nat.le_of_lt (Nat.lt_of_lt_of_eq (Nat.lt_succ_self _) hsz.symm)) hsz₃
  have k₃ : ∀ b o, b ≠ P → s₁.heap.get? b = some o → h₃.get? b = some o := fun b o hb e => hx₃ b o hb (kp b o e)
  have M₃ : BMod h₃ env.globals mg bm ob := (C₁.bmod.keeps kp).extBut (C₁.tab.keeps kp) hx₃
  have hl₃ : h₃.NoLimit := (C₁.lim.keeps kp).extBut hx₃ hcP
  refine wpAny_builtinsFor M₃.ns M₃.name M₃.ne M₃.obj M₃.cls M₃.dict M₃.data ?_
  have hL₃ : h₃.IsList l items := let ⟨o, e, hc, n, hd⟩ := hl; ⟨o, k₃ l o hlP e, hc, n, hd⟩
  have hI₃ : h₃.IsListIter s₁.heap.objs.size l 0 := hIt.extBut hx₃ (Nat.ne_of_gt hPlt)
  refine ⟨s₁.heap.objs.size, [s₁.heap.objs.size, l], [s₁.heap.objs.size], items.size, _, _, fun _ => true, fun _ y => y = .bool false, rfl, (fun A' hA => Walks.list hA _ _ (Nat.ne_of_lt hlt) items), ⟨hI₃, hL₃⟩, ?_, hl₃, ?_, ?_, ?_⟩
  · intro b hb
    show b < h₃.objs.size
    rcases List.mem_cons.mp hb with rfl | hb
    · exact Nat.lt_of_lt_of_le (Nat.lt_of_lt_of_eq (Nat.lt_succ_self _) hsz.symm) hsz₃
    · rw [List.mem_singleton] at hb; subst hb; exact Nat.lt_of_lt_of_le hlt hle₃
  · intro hb
    rw [List.mem_singleton] at hb; exact absurd hclt' (by rw [hb]; exact Nat.lt_irrefl _)
  · intro href hhref
    refine ⟨fun A' E' i v s₂ m₂ hA _ _ _ _ => wpAny_pure ⟨rfl, s₂.heap, s₂.toks, rfl, fun _ _ e => e⟩, fun A' E' i v s₂ m₂ hA hP _ hn hm hk => ?_⟩
    refine helt _ A' E' i v s₂ m₂ rfl rfl rfl hA hP hn hm fun b o hb e => hk b ?_ ?_ o (hhref b o (k₃ b o hb e))
    · show b ∈ List.range h₃.objs.size
      exact List.mem_range.mpr (Nat.lt_of_lt_of_le (Heap.lt_size e) hle₃)
    · intro z
      rw [List.mem_singleton] at z; exact absurd (Heap.lt_size e) (by rw [z]; exact Nat.lt_irrefl _)
  · intro a h₅ tk gs hgb hag hsz₅ hk₅ W hat
    have W := W.in4_1
    have pz : passing (fun _ => true) items.size 0 = List.range items.size := by
      unfold passing; rw [List.drop_zero, List.filter_eq_self]; exact fun _ _ => rfl
    refine call_any_walkS (W.self 0 _ _ _ hat ⟨a, _, _, _, _, _, _, fun _ => false, rfl, W, hat, ?_, fun s' hm => ?_⟩)
    · rintro i v s₂ Q₂ E₂ ⟨j, _, rfl⟩ hq
      exact wpAny_truthy_bool hq
    · have hany : ∀ k : Nat, (List.range k).any (fun _ => false) = false := fun k => List.any_eq_false.mpr fun _ _ => Bool.false_ne_true
      rw [hany]
      have old : ∀ b, b < s₁.heap.objs.size → b ∉ (h₃.objs.size :: [s₁.heap.objs.size]) := fun b hb z => by
        rcases List.mem_cons.mp z with z | z
        · exact absurd hb (by rw [z]; exact Nat.not_lt.mpr hle₃)
        · rw [List.mem_singleton] at z; exact absurd hb (by rw [z]; exact Nat.lt_irrefl _)
      have k' : ∀ b o, b < s₁.heap.objs.size → h₃.get? b = some o → s'.heap.get? b = some o := fun b o hb e => hm.heap b o (old b hb) (hk₅ b o e)
      refine hQ c' s' (fun b o hb e => k' b o (Heap.lt_size e) (k₃ b o hb e)) ⟨code_at hcode₃ fun b o hb e => k' b o ?_ e, table_to htab₃ fun b o hb e => k' b o ?_ e, ?_, ?_⟩ ((G₁.push hgb).movedS hm) hm.os hm.drawn
      · rcases hb with rfl | rfl <;> assumption
      · rcases hb with rfl | rfl <;> assumption
      · exact ⟨M₃.ns.at' fun o e => k' _ o (C₁.bmod.ns.lt) e, M₃.name, M₃.ne, k' _ _ (Heap.lt_size C₁.bmod.obj) M₃.obj, M₃.cls, M₃.dict, M₃.data⟩
      · obtain ⟨mc, hns, hnn⟩ := hl₃
        exact ⟨mc, hns.at' fun o e => k' _ o hclt' e, hnn⟩
end
end Mine
end

section
set_option Elab.async false
set_option maxRecDepth 100000
namespace Mine
open PySem PySem.W PySem.Calls PyProof.Rows

theorem boot_any : bootBuiltins (nm "any") = some (.builtin "any") := by decide +kernel
theorem o_exc {α β : Type} {o : Option β} {f : β → Res α} {m : Msg} (hf : ∀ b, f b ≠ .exc m) : onO o f ≠ .exc m := by
  cases o with
  | none => exact fun h => nomatch h
  | some b => exact hf b
theorem index_exc {d : V} {k : Int} {m : Msg} : indexV d (.int k) ≠ .exc m := by
  have at_exc : ∀ ds, atV ds (.int k) ≠ .exc m := fun ds => by
    show (if 0 ≤ k then onO ds[k.toNat]? .ok else .bad) ≠ _
    split
    · exact o_exc fun _ h => nomatch h
    · exact fun h => nomatch h
  cases d with
  | list ds => exact at_exc ds
  | tuple ds => exact at_exc ds
  | str y =>
    show (if 0 ≤ k then onO y.cps[k.toNat]? (fun c => Res.ok (V.str ⟨#[c]⟩)) else .bad) ≠ _
    split
    · exact o_exc fun _ h => nomatch h
    · exact fun h => nomatch h
  | none => exact fun h => nomatch h
  | bool => exact fun h => nomatch h
  | int => exact fun h => nomatch h
  | flt => exact fun h => nomatch h
  | dict => exact fun h => nomatch h
section
variable {prog : Program} {w : World} {b0 : Heap} {mg mb : PySem.Str → Option Value} {consts : String → Option V} {r : Rec} {n : Nat} {c : Cx} {E : List Addr} {φ : Frm} {Ω : List (String × Addr)} {s : Shared} {Ex : Value → Shared → Prop} {A : Around}
/-- a built-in name, in the env of a generator expression -/
theorem ld_gen {cenv : Env} {x : String} {p : Pos} {v : Value} {Q : Value → Shared → Prop} (S : Stat (prog, w) b0 mg mb consts) (hst : b0.StaysIn s.heap) (hk : cenv.scope.kind = .function) (hg : cenv.globals = mainGlobals) (hbi : cenv.builtins = builtinsNs) (hn : GName cenv.scope x) (hm : mg (nm x) = none) (hv : bootBuiltins (nm x) = some v) (hx : nm x ≠ "__name__") (h : Q v s) :
    wpAny (model prog w) A (eval (.Name (nm x) p) cenv) Q Ex s :=
  Name_function_global hk hn.1 (loadGlobal_builtin (by rw [hg]; exact S.g.keeps hst) hm (by rw [hbi]; exact S.b.keeps hst) ((S.bi _ hx).trans hv) h) hn.2
theorem elt_type {cenv : Env} {X : Expr} {T T' : String} {yes : Bool} {d : V} {ok : Addr → Prop} {np xp tp p : Pos} (S : Stat (prog, w) b0 mg mb consts) (hst : b0.StaysIn s.heap) (hk : cenv.scope.kind = .function) (hg : cenv.globals = mainGlobals) (hbi : cenv.builtins = builtinsNs) (hn : GName cenv.scope "type") (hT : GName cenv.scope T) (hT' : T = "int" ∨ T = "str" ∨ T = "bool")
    (hs1 : starEach [X] cenv = (false, eval X cenv) :: starEach [] cenv)
    (hX : ∀ (Q : Value → Shared → Prop), (∀ v tk, R (prog, w) ok s.heap v d → Q v { s with toks := tk }) → wpAny (model prog w) A (eval X cenv) Q Ex s) (ht : typeV d = .ok T') (hb : ((T' == T) == yes) = false) :
    wpAny (model prog w) A (eval (.Compare (.Call (.Name (nm "type") np) [X] [] xp) [isW yes] [.Name (nm T) tp] p) cenv) (fun y s₃ => y = .bool false ∧ Keeps s s₃) Ex s := by
  refine wpAny_Compare1 (Call_ (ld_gen S hst hk hg hbi hn (S.free _ (by decide)) boot_type (by decide) (callWith_type1 ?_ hs1 rfl))) (by cases yes <;> rfl)
  refine args_cons (hX _ fun v tk rv => args_nil ?_) hs1
  refine type_sound (s := { s with toks := tk }) (X := fun _ => False) rv ?_
  rw [ht]
  have fin : ∀ tk', (fun (y : Value) s₃ => y = .bool false ∧ Keeps s s₃) (.bool false) { s with toks := tk' } := fun tk' => ⟨rfl, s.heap, tk', rfl, fun _ _ e => e⟩
  have eqT : (Value.type T' == Value.type T) = (T' == T) := by
    by_cases q : T' = T
    · subst q; simp
    · rw [beq_eq_false_iff_ne.mpr q]; exact beq_eq_false_iff_ne.mpr fun z => q (by injection z)
  have go : mg (nm T) = none → bootBuiltins (nm T) = some (.type T) → nm T ≠ "__name__" → wpAny (model prog w) A (eval (.Name (nm T) tp) cenv) (fun b s₂ => wpAny (model prog w) A (compareOp (isW yes) (.type T') b) (fun y s₃ => y = .bool false ∧ Keeps s s₃) Ex s₂) Ex { s with toks := tk } := by
    intro g1 g2 g3
    refine ld_gen (s := { s with toks := tk }) S hst hk hg hbi hT g1 g2 g3 ?_
    cases yes with
    | true =>
      refine wpAny_is_plain rfl ?_
      rw [eqT]
      cases q : (T' == T) with
      | true => rw [q] at hb; cases hb
      | false => exact fin tk
    | false =>
      refine wpAny_isNot_plain rfl ?_
      rw [eqT]
      cases q : (T' == T) with
      | true => exact fin tk
      | false => rw [q] at hb; cases hb
  rcases hT' with rfl | rfl | rfl
  · exact go (S.free _ (by decide)) boot_int (by decide)
  · exact go (S.free _ (by decide)) boot_str (by decide)
  · exact go (S.free _ (by decide)) boot_bool (by decide)
theorem none_at {k : Option Int} {T : String} {yes : Bool} {ds : List V} {PU : Unit → Prop} {X : Msg → Prop} (H : G (noneV k T yes ds) PU X) : PU () ∧ ∀ (i : Nat) (d : V), ds[i]? = some d → ∃ d' T', partV k d = .ok d' ∧ typeV d' = .ok T' ∧ ((T' == T) == yes) = false := by
  induction ds with
  | nil => exact ⟨H, fun i d h => by simp at h⟩
  | cons d ds ih =>
    have H := G.bind (res := partV k d) H
    cases hp : partV k d with
    | bad => rw [hp] at H; exact H.elim
    | exc m => exact absurd hp (by cases k with | none => exact fun z => nomatch z | some k => exact index_exc)
    | ok d' =>
      rw [hp] at H
      have H := G.bind (res := typeV d') H
      cases ht : typeV d' with
      | bad => rw [ht] at H; exact H.elim
      | exc m => exact absurd ht (by cases d' <;> exact fun z => nomatch z)
      | ok T' =>
        rw [ht] at H
        obtain ⟨q, H⟩ := G.need H
        obtain ⟨a, b⟩ := ih H
        refine ⟨a, fun i e he => ?_⟩
        cases i with
        | zero => simp at he; subst he; exact ⟨d', T', hp, ht, q⟩
        | succ i => exact b i e (by simpa using he)
end
end Mine
end

section
set_option Elab.async false
set_option maxRecDepth 100000
namespace Mine
open PySem PySem.W PySem.Calls PyProof.Rows

/-- the scope of a generator expression that takes nothing along -/
noncomputable def gsB (cs : Scope) (x T : String) : Bool := decide (cs.isCoroutine = false ∧ cs.kind = .function ∧ (∀ y ∈ cs.names, y.2 ≠ .cell) ∧ (∀ y ∈ cs.names, y.2 ≠ .free) ∧ cs.names.lookup (".0" : PySem.Str) = some .local ∧ cs.names.lookup (nm x) = some .local ∧ (nm x == ("__debug__" : PySem.Str)) = false ∧ (T = "int" ∨ T = "str" ∨ T = "bool")) && (gnB cs "type" && gnB cs T)
section
variable {prog : Program} {w : World} {b0 : Heap} {mg mb : PySem.Str → Option Value} {consts : String → Option V} {r : Rec} {n : Nat} {c : Cx} {E : List Addr} {φ : Frm} {Ω : List (String × Addr)} {s : Shared} {Q : Flow → Shared → Prop} {Ex : Value → Shared → Prop} {A : Around} {cA P bm : Addr} {ps : Array Value} {ob : Obj}
theorem CodeSt.kp {h h' : Heap} (C : CodeSt h cA P ps mainGlobals mg bm ob) (k : Kp c.fs [] h h') (S : Stat (prog, w) b0 mg mb consts) (hst : b0.StaysIn h') : CodeSt h' cA P ps mainGlobals mg bm ob := by
  have kc : ∀ b o, b = cA ∨ b = P → h.get? b = some o → h'.get? b = some o := fun b o hb e => k.same e (fun z => nomatch z) (by
    rcases hb with rfl | rfl
    · obtain ⟨⟨o', vs, e', hc, _⟩, _⟩ := C.tab
      rw [e'] at e; cases e; exact noFrame hc (by decide)
    · have e' := C.tab.2
      rw [e'] at e; cases e; exact fun z => nomatch z)
  exact ⟨code_at C.code kc, table_to C.tab kc, ⟨S.g.keeps hst, C.bmod.name, C.bmod.ne, k.same C.bmod.obj (fun z => nomatch z) (noFrame C.bmod.cls (by decide)), C.bmod.cls, C.bmod.dict, C.bmod.data⟩, S.nolimit.keeps hst⟩
/-- `if any(type(x) is T for x in e): return False`, when there is none -/
theorem ex_guard {x T : String} {k : Option Int} {yes : Bool} {e : IE} {iter elt : Expr} {px np gp cp rp rq p : Pos} {cs : Scope} {ck : Nat} (S : Stat (prog, w) b0 mg mb consts) (hE : SEv prog w b0 r n) (ok : c.Ok n) (st : StS (prog, w) b0 c E φ Ω s.heap)
    (C : CodeSt s.heap cA P ps mainGlobals mg bm ob) (G₀ : AllBare s.gens) (hcode : c.env.code = .ref cA) (hnf : codeAmong gp ps.toList = none) (hPY : P ∉ c.Y Ω) (hPE : P ∈ E) (hg : gsB cs x T = true) (hany : GName c.env.scope "any") (hma : mg (nm "any") = none) (he : CE c.env.scope iter e) (hfold : ∀ z, genFold iter c.env z = pure z) {e₀ : Expr}
    (helt : elt = partT x k T yes e₀)
    (H : G (exI r φ (.guardAny x e k T yes)) (fun q => ∀ c' (s' : Shared), StS (prog, w) b0 c E q.2 Ω s'.heap → CodeSt s'.heap cA P (ps ++ #[rawInt gp.line, rawInt gp.col, .ref c']) mainGlobals mg bm ob → AllBare s'.gens → s'.os = s.os → (∀ b o, b ≠ P → b ∉ c.fs → s.heap.get? b = some o → s'.heap.get? b = some o) → Q .next s') (XPostS b0 c Ω s Ex)) :
    wpAny (model prog w) c.A (exec (.If (.Call (.Name (nm "any") np) [.GeneratorExp elt [⟨.Name (nm x) px, iter, [], 0⟩] cs gp] [] cp) [.Return (some (.Constant (.bool false) ck rp)) rq] [] p) c.env) Q Ex s := by
  dsimp only [exI] at H
  obtain ⟨o1, o2⟩ := and_ok hg
  obtain ⟨g1, g2, g3, g4, g5, g6, g7, g8⟩ := of_decide_eq_true o1
  have gt := gnB_ok (and_ok o2).1
  have gT := gnB_ok (and_ok o2).2
  refine wpAny_If (wpAny_isTrue_value (Call_ (ld_boot S ok st.st hany hma boot_any (by decide) (callWith_builtin1 ?_ rfl rfl))) rfl)
  refine args_cons ?_ rfl
  refine wpAny_mono (any_gen (P := P) (Q := fun v s₁ => v = .bool false ∧ Q .next s₁) (mg := mg) (bm := bm) (ob := ob) hcode hnf ok.handled g1 (clos_eq fun y hy hf => absurd hf (g4 y hy)) g3 g5 g6 g2 (by have := ok.depth; omega) (evIt_sound hE ok st.st he (H.bind.mono (fun u _ Hu v h₁ tk₁ k₁ r₁ => ?_) fun _ _ X => X.now st.st)) hfold) (fun v s₁ h₁ => args_nil (wpAny_mono h₁ (fun v' s₂ h₂ => ?_) fun _ _ e => e)) fun _ _ e => e
  · have st₁ := st.kp k₁
    have hb0 : b0.get? P = none := st.st.off P (.inl hPE)
    obtain ⟨l, vs, ds, rfl, h0, la, ra, Hu⟩ := Hu.rList r₁
    obtain ⟨HP, hnone⟩ := none_at Hu.bind
    have C₁ := C.kp k₁ S st₁.st.stay
    have hPo := C₁.tab.2
    have nP : ∀ b o, h₁.get? b = some o → Held o → b ≠ P := fun b o e hh z => by
      rw [z, hPo] at e; cases e
      rcases hh with q | q | q <;> cases q
    refine ⟨l, vs.toArray, rfl, la.isList, by rw [ok.globals]; exact C₁, G₀, ?_, ?_⟩
    · intro cenv A' E' i v s₂ m₂ hsc hgl hbi hA hv hn hm hk
      obtain ⟨d, hd, rd⟩ := ra.getV (show vs[i]? = some v by simpa using hv)
      obtain ⟨d', T', hp, ht, hb⟩ := hnone i d hd
      have rd' := rd.mono (ok' := fun _ => True) (h' := s₂.heap) (fun b o _ e hh => hk b o (nP b o e hh) e) fun _ _ _ _ => trivial
      have hst₂ : b0.StaysIn s₂.heap := fun b o e => hk b o (fun z => by rw [z, hb0] at e; cases e) (st₁.st.stay b o e)
      have nx : ∀ {A : Around} {Ex : Value → Shared → Prop} {pp : Pos} (Q : Value → Shared → Prop), Q v s₂ → wpAny (model prog w) A (eval (.Name (nm x) pp) cenv) Q Ex s₂ := fun Q hq =>
        wpAny_Name (wpAny_loadName_local (by rw [hsc]; exact g2) (by show cenv.scope.names.lookup _ = _; rw [hsc]; exact g6) hn hm hq) g7
      subst helt
      unfold partT callN
      cases k with
      | none =>
        cases hp
        exact elt_type (d := d) (ok := fun _ => True) S hst₂ (by rw [hsc]; exact g2) (by rw [hgl]; exact ok.globals) hbi (by rw [hsc]; exact gt) (by rw [hsc]; exact gT) g8 rfl (fun Q hq => nx Q (hq v s₂.toks rd')) ht hb
      | some k =>
        refine elt_type (d := d') (ok := fun _ => True) S hst₂ (by rw [hsc]; exact g2) (by rw [hgl]; exact ok.globals) hbi (by rw [hsc]; exact gt) (by rw [hsc]; exact gT) g8 rfl (fun Q hq => ?_) ht hb
        refine Subscript_ (nx _ (wpAny_Constant_int ?_))
        refine item_sound (s := { s₂ with toks := s₂.toks + 1 }) (X := fun _ => False) (e := .int k) rd' (.int (ok := fun _ => True) (P := (prog, w)) (h := s₂.heap) k _) (fun _ _ => rfl) ?_
        rw [show indexV d (.int k) = .ok d' from hp]
        exact fun v' tk rv => hq v' tk rv
    · intro c' s' keep C' G' hos hdr
      refine ⟨rfl, HP c' s' ?_ (by rw [ok.globals] at C'; exact C') G' hos (fun b o hb hf e => keep b o hb (k₁.off e (fun z => nomatch z) hf))⟩
      · refine st₁.buts (wr := [P]) (fun b o hb e => keep b o (fun z => hb (by rw [z]; exact .head _)) e) fun J hJ => ?_
        cases List.mem_singleton.mp hJ
        refine ⟨hPY, fun z => (by obtain ⟨o, e, hc⟩ := st₁.st.fc P z; rw [hPo] at e; cases e; cases hc), fun _ => ⟨_, C'.tab.2⟩, hb0, fun o e hh => nP _ o e hh rfl⟩
  · obtain ⟨rfl, h₂⟩ := h₂
    exact wpAny_truthy_bool (wpAny_execs_nil h₂)
end
end Mine
end

section
set_option Elab.async false
set_option maxRecDepth 100000
namespace Mine
open PySem PySem.W PySem.Calls PyProof.Rows

section
variable {prog : Program} {w : World} {b0 : Heap} {mg mb : PySem.Str → Option Value} {consts : String → Option V} {r : Rec} {n : Nat} {c : Cx} {E : List Addr} {Q : Flow → Shared → Prop} {Ex : Value → Shared → Prop} {cA P bm : Addr} {ps : Array Value} {ob : Obj}
theorem CodeSt.kpY {h h' : Heap} {Y : List Addr} (C : CodeSt h cA P ps mainGlobals mg bm ob) (k : Kp c.fs Y h h') (hY : ∀ b, b = cA ∨ b = P ∨ b = bm → b ∉ Y) (S : Stat (prog, w) b0 mg mb consts) (hst : b0.StaysIn h') : CodeSt h' cA P ps mainGlobals mg bm ob := by
  have kc : ∀ b o, b = cA ∨ b = P → h.get? b = some o → h'.get? b = some o := fun b o hb e => k.same e (hY b (hb.imp_right .inl)) (by
    rcases hb with rfl | rfl
    · obtain ⟨⟨o', vs, e', hc, _⟩, _⟩ := C.tab
      rw [e'] at e; cases e; exact noFrame hc (by decide)
    · have e' := C.tab.2
      rw [e'] at e; cases e; exact fun z => nomatch z)
  exact ⟨code_at C.code kc, table_to C.tab kc, ⟨S.g.keeps hst, C.bmod.name, C.bmod.ne, k.same C.bmod.obj (hY bm (.inr (.inr rfl))) (noFrame C.bmod.cls (by decide)), C.bmod.cls, C.bmod.dict, C.bmod.data⟩, S.nolimit.keeps hst⟩
theorem G.app {r : Rec} {a b : List IS} {post : Fl × Frm → Prop} {X : Msg → Prop} : ∀ {φ : Frm}, G (blk r φ (a ++ b)) post X → G (blk r φ a) (fun p => match p.1 with
    | .next => G (blk r p.2 b) post X
    | _ => post p) X := by
  induction a with
  | nil => exact fun H => H
  | cons i a ih =>
    intro φ H
    have H := G.bind (res := r.ex φ i) H
    show G ((r.ex φ i).bind _) _ _
    cases hi : r.ex φ i with
    | bad => rw [hi] at H; exact H.elim
    | exc m => rw [hi] at H; exact H
    | ok p =>
      rw [hi] at H
      obtain ⟨f, ψ⟩ := p
      cases f with
      | next => exact ih H
      | cont => exact H
      | brk => exact H
      | ret d f => exact H
/-- the first statements of a block -/
theorem blk_rest (hX : SEx prog w b0 r n) (ok : c.Ok n) (hf : c.Fn) (hp : Passes prog w c Ex) {as rest : List Stmt} {is : List IS} (hb : CB c.env.scope as is) : ∀ {φ : Frm} {Ω : List (String × Addr)} {s : Shared}, StS (prog, w) b0 c E φ Ω s.heap →
    G (blk r φ is) (fun p => match p.1 with
      | .next => ∀ h' tk Ω', Kp c.fs (c.Y Ω) s.heap h' → Gr c s.heap Ω Ω' → StS (prog, w) b0 c E p.2 Ω' h' → wpAny (model prog w) c.A (execs rest c.env) Q Ex { s with heap := h', toks := tk }
      | _ => ExPost (prog, w) b0 c E Ω s Q p) (XPostS b0 c Ω s Ex) → wpAny (model prog w) c.A (execs (as ++ rest) c.env) Q Ex s := by
  induction hb with
  | nil => exact fun {φ Ω s} st H => (show ∀ h' tk Ω', _ from H) s.heap s.toks Ω .refl .refl st
  | cons ha _ ih =>
    intro φ Ω s st H
    rw [List.cons_append]
    refine wpAny_execs_cons (hX c E φ Ω s _ _ _ _ ok hf hp st ha ((G.bind (res := r.ex φ _) H).mono (fun p _ Hp flow h' tk Ω' hfl k g st' => ?_) fun _ _ X => X))
    obtain ⟨fl, φ'⟩ := p
    cases fl with
    | next =>
      cases flow <;> first | exact hfl.elim | skip
      refine ih (s := { s with heap := h', toks := tk }) st' (G.mono (res := blk r φ' _) Hp (fun q _ Hq => ?_) fun _ _ X => X.step k g)
      obtain ⟨fq, ψ⟩ := q
      cases fq with
      | next => exact fun h'' tk'' Ω'' k'' g'' st'' => Hq h'' tk'' Ω'' (g.kp k k'') (g.trans k g'') st''
      | cont => exact (show ExPost (prog, w) b0 c E Ω s Q _ from Hq).step k g
      | brk => exact (show ExPost (prog, w) b0 c E Ω s Q _ from Hq).step k g
      | ret d f => exact (show ExPost (prog, w) b0 c E Ω s Q _ from Hq).step k g
    | cont =>
      cases flow <;> first | exact hfl.elim | skip
      exact (show ExPost (prog, w) b0 c E Ω s Q (.cont, φ') from Hp) _ _ _ Ω' hfl k g st'
    | brk =>
      cases flow <;> first | exact hfl.elim | skip
      exact (show ExPost (prog, w) b0 c E Ω s Q (.brk, φ') from Hp) _ _ _ Ω' hfl k g st'
    | ret d f =>
      cases flow <;> first | exact hfl.elim | skip
      exact (show ExPost (prog, w) b0 c E Ω s Q (.ret d f, φ') from Hp) _ _ _ Ω' hfl k g st'
end
end Mine
end

section
set_option Elab.async false
set_option maxRecDepth 100000
namespace Mine
open PySem PySem.W PySem.Calls PyProof.Rows
theorem ints_RA {P : Program × World} {ok : Addr → Prop} {h : Heap} {vs : List Value} {zs : List Int} (x : IntsAre vs zs) : RA P ok h vs (zs.map V.int) := by
  induction x with
  | nil => exact .nil
  | cons n t _ ih => exact .cons (.int n t) ih
/-- a name space for the call from without -/
noncomputable def env0 : Env := envOf (nm "") { kind := .function, names := [], isGenerator := false, isCoroutine := false } 0 0 .none
noncomputable def cx0 : Cx := ⟨env0, callerA, []⟩
theorem cx0_ok {n : Nat} (h : n ≤ 600) : cx0.Ok n := by
  refine ⟨rfl, rfl, rfl, rfl, rfl, ?_, ?_, fun x hx => ?_⟩
  · have : recursionLimit = 1000 := rfl
    show 301 + n < recursionLimit; omega
  · have : cLine = 9900 := rfl
    show 4 + 8 * n + 200 < cLine; omega
  · have : (([] : List (PySem.Str × NameKind)).lookup x) = some .cell := hx
    cases this
noncomputable def foldB : Expr → Bool
  | .Name .. => true
  | .Subscript .. => true
  | _ => false
theorem foldB_ok {e : Expr} (h : foldB e = true) (env : Env) (z : Value) : genFold e env z = pure z := by
  cases e <;> first | rfl | cases h
noncomputable def okG (sc : Scope) (s : Stmt) (x : String) (e : IE) (T : String) : Bool := gsB (look (kid 1 (sk 0 s))).2.2 x T && (gnB sc "any" && (okE 59 sc (kid 2 (kid 1 (sk 0 s))) e && foldB (kid 2 (kid 1 (sk 0 s)))))
/-- the place of a statement's generator expression -/
noncomputable def gpos (s : Stmt) : Pos := (kid 1 (sk 0 s)).pos
section
variable {prog : Program} {w : World} {b0 : Heap} {mg mb : PySem.Str → Option Value} {consts : String → Option V} {r : Rec} {n : Nat} {c : Cx} {E : List Addr} {φ : Frm} {Ω : List (String × Addr)} {s : Shared} {Q : Flow → Shared → Prop} {Ex : Value → Shared → Prop} {cA P bm : Addr} {ps : Array Value} {ob : Obj}
theorem guard_stmt {x T : String} {k : Option Int} {yes : Bool} {e : IE} {a : Stmt} (S : Stat (prog, w) b0 mg mb consts) (hE : SEv prog w b0 r n) (ok : c.Ok n) (st : StS (prog, w) b0 c E φ Ω s.heap)
    (C : CodeSt s.heap cA P ps mainGlobals mg bm ob) (G₀ : AllBare s.gens) (hcode : c.env.code = .ref cA) (hnf : codeAmong (gpos a) ps.toList = none) (hPY : P ∉ c.Y Ω) (hPE : P ∈ E) (hma : mg (nm "any") = none)
    (h : toS 60 a (.guardAny x e k T yes) = a) (o : okG c.env.scope a x e T = true)
    (H : G (exI r φ (.guardAny x e k T yes)) (fun q => ∀ c' (s' : Shared), StS (prog, w) b0 c E q.2 Ω s'.heap → CodeSt s'.heap cA P (ps ++ #[rawInt (gpos a).line, rawInt (gpos a).col, .ref c']) mainGlobals mg bm ob → AllBare s'.gens → s'.os = s.os → (∀ b o, b ≠ P → b ∉ c.fs → s.heap.get? b = some o → s'.heap.get? b = some o) → Q .next s') (XPostS b0 c Ω s Ex)) :
    wpAny (model prog w) c.A (exec a c.env) Q Ex s := by
  obtain ⟨o1, o2⟩ := and_ok o
  obtain ⟨o2, o3⟩ := and_ok o2
  obtain ⟨o3, o4⟩ := and_ok o3
  have key : ∀ a', a' = a → wpAny (model prog w) c.A (exec a' c.env) Q Ex s → wpAny (model prog w) c.A (exec a c.env) Q Ex s := fun _ q z => q ▸ z
  have e1 : toE 59 (kid 2 (kid 1 (sk 0 a))) e = kid 2 (kid 1 (sk 0 a)) := congrArg (fun z => kid 2 (kid 1 (sk 0 z))) h
  exact key _ h (ex_guard S hE ok st C G₀ hcode hnf hPY hPE o1 (gnB_ok o2) hma (mkE e1 o3) (fun z => by rw [e1]; exact foldB_ok o4 _ z) rfl H)
end
end Mine
end

section
set_option Elab.async false
set_option maxRecDepth 100000
namespace Mine
open PySem PySem.W PySem.Calls PyProof.Rows
section
variable {prog : Program} {w : World} {h : Heap} {P : Addr} {mg mb : PySem.Str → Option Value} {consts : String → Option V}
theorem hid (hP : h.get? P = some { cls := .none, data := .fields #[] }) {b : Addr} {o : Obj} (e : h.get? b = some o) (ne : o.data ≠ .fields #[]) : (hideAll h [P]).get? b = some o :=
  hideAll_get _ e fun z => by
    rw [List.mem_singleton] at z
    rw [z, hP] at e; cases e; exact ne rfl
theorem ns_hide (hP : h.get? P = some { cls := .none, data := .fields #[] }) {a : Addr} {m : PySem.Str → Option Value} (x : h.Ns a m) : (hideAll h [P]).Ns a m :=
  let ⟨o, es, ep, e, hd, q⟩ := x; ⟨o, es, ep, hid hP e (by rw [hd]; exact fun z => nomatch z), hd, q⟩
theorem Stat.hide (hP : h.get? P = some { cls := .none, data := .fields #[] }) (S : Stat (prog, w) h mg mb consts) : Stat (prog, w) (hideAll h [P]) mg mb consts :=
  ⟨ns_hide hP S.g, ns_hide hP S.b, let ⟨mc, a, q⟩ := S.nolimit; ⟨mc, ns_hide hP a, q⟩, S.bi, S.free, fun x d hd => let ⟨v, e, rv⟩ := S.con x d hd; ⟨v, e, rv.mono (fun b o _ e hh => hideAll_get _ e fun z => by
    rw [List.mem_singleton] at z
    rw [z, hP] at e; cases e
    rcases hh with q | q | q <;> cases q) fun _ _ _ _ => trivial⟩⟩
theorem rec_hide (hP : h.get? P = some { cls := .none, data := .fields #[] }) {cd : Value} {q : PySem.Str} (x : h.CodeRec cd q) : (hideAll h [P]).CodeRec cd q :=
  let ⟨c, o, vs, t, e, g, hd, r⟩ := x
  ⟨c, o, vs, t, e, hid hP g (by rw [hd]; intro z; injection z with z; rw [z] at r; simp at r), hd, r⟩
theorem FnOk.hide (hP : h.get? P = some { cls := .none, data := .fields #[] }) {fa : Addr} {ps : List String} {body : List IS} (F : FnOk h fa ps body) : FnOk (hideAll h [P]) fa ps body := by
  obtain ⟨⟨o, fd, stmts, ho, hd, hb, hg, hbi, hcl, hk, hco, hgen, hcd, q⟩, hnd⟩ := F
  exact ⟨⟨o, fd, stmts, hid hP ho (by rw [hd]; exact fun z => nomatch z), hd, hb, hg, hbi, hcl, hk, hco, hgen, rec_hide hP hcd, q⟩, hnd⟩
end
end Mine
end

section
set_option Elab.async false
set_option maxRecDepth 100000
namespace Mine
open PySem PySem.W PySem.Calls PyProof.Rows
section
variable {prog : Program} {w : World} {b0 hs : Heap} {mg mb : PySem.Str → Option Value} {consts : String → Option V} {c : Cx} {Ω Ω' : List (String × Addr)} {cA P bm : Addr} {ps : Array Value} {ob : Obj} {h h' : Heap}
/-- what was there before the law, but its table, is as it was -/
structure Keep4 (hs : Heap) (P : Addr) (c : Cx) (Ω : List (String × Addr)) (h : Heap) : Prop where
  old : ∀ b o, b ≠ P → hs.get? b = some o → h.get? b = some o
  tab : ∃ o, h.get? P = some o
  fresh : ∀ a ∈ c.Y Ω, hs.get? a = none
  frames : ∀ a ∈ c.fs, hs.get? a = none
theorem Keep4.step (x : Keep4 hs P c Ω h) (k : Kp c.fs (c.Y Ω) h h') (g : Gr c h Ω Ω') (hp : ∃ o, hs.get? P = some o) : Keep4 hs P c Ω' h' := by
  obtain ⟨op, hp⟩ := hp
  have nY : ∀ b o, hs.get? b = some o → b ∉ c.Y Ω := fun b o e z => by rw [x.fresh b z] at e; cases e
  have nf : ∀ b o, hs.get? b = some o → b ∉ c.fs := fun b o e z => by rw [x.frames b z] at e; cases e
  refine ⟨fun b o hb e => k.off (x.old b o hb e) (nY b o e) (nf b o e), ?_, fun a ha => ?_, x.frames⟩
  · obtain ⟨o, e⟩ := x.tab
    exact ⟨o, k.off e (nY P op hp) (nf P op hp)⟩
  · rcases g.2 a ha with z | z
    · exact x.fresh a z
    · cases e : hs.get? a with
      | none => rfl
      | some o =>
        by_cases q : a = P
        · obtain ⟨o', e'⟩ := x.tab; rw [q, e'] at z; cases z
        · rw [x.old a o q e] at z; cases z
theorem Keep4.oldK (x : Keep4 hs P c Ω h) (ht : hs.TableAt cA P #[]) (C : CodeSt h cA P ps mainGlobals mg bm ob) : OldK hs h := by
  refine ⟨fun b o e => ?_, fun b o e => ?_⟩
  · by_cases q : b = P
    · subst q
      have e' := ht.2
      rw [e'] at e; cases e
      exact .inr (.inl ⟨ht.isCodeTable, rfl, #[], ps, rfl, by rw [Array.empty_append]; exact C.tab.2⟩)
    · exact .inl (x.old b o q e)
  · by_cases q : b = P
    · obtain ⟨o', e'⟩ := x.tab; exact ⟨o', by rw [q]; exact e'⟩
    · exact ⟨o, x.old b o q e⟩
end
theorem guard_res {r : Rec} {φ : Frm} {x T : String} {e : IE} {k : Option Int} {y : Bool} {q : Fl × Frm} (h : exI r φ (.guardAny x e k T y) = .ok q) : q = (.next, φ) := by
  dsimp only [exI] at h
  cases h1 : evIt r φ e with
  | bad => rw [h1] at h; cases h
  | exc m => rw [h1] at h; cases h
  | ok u =>
    rw [h1] at h
    obtain ⟨d, f⟩ := u
    cases d <;> first | (cases h; done) | skip
    rename_i ds
    have h : ((noneV k T y ds).bind fun _ => Res.ok (Fl.next, φ)) = .ok q := h
    cases h2 : noneV k T y ds with
    | bad => rw [h2] at h; cases h
    | exc m => rw [h2] at h; cases h
    | ok u => rw [h2] at h; cases h; rfl
theorem law_fin4 {prog : Program} {w : World} {p : Program} {loose : List PySem.Str} {lv : List (PySem.Str × WData)} {mean : ExcName → Option Value} {mg mb : PySem.Str → Option Value} {s : Shared} {fa L : Addr} {vs : List Value} {zs : List Int} {Q : Value → Shared → Prop} {E : Value → Shared → Prop}
    {tbl : Tbl} {consts : String → Option V} {d : DefRec} {sA sB sC : List Stmt} {s1 s2 : Stmt} {iA iB iC : List IS} {x1 T1 x2 T2 : String} {k1 k2 : Option Int} {y1 y2 : Bool} {e1 e2 : IE} {φ' : Frm} (T : Top p loose mean mg mb s.heap) (W : TopW p mg s.heap) (Lv : LooseAre lv mg s.heap)
    (hdefs : ∀ f ps body, tbl f = some (ps, body) → bindOk ps ∧ defB p f ps body = true ∧ zipW (toS 60) body (bodyOf p f) = bodyOf p f) (hfree : freeB p loose = true) (hcon : ∀ x d, consts x = some d → conB p lv x = some d) (hma : mg (nm "any") = none)
    (hd : dOf p "law" = some d) (hbody : d.body = sA ++ s1 :: (sB ++ s2 :: sC)) (hpar : parB d.params ["script"] = true) (hbi : bindOk ["script"]) (hsc : decide (d.scope.kind = .function ∧ d.scope.isCoroutine = false ∧ d.scope.isGenerator = false ∧ ((cellsFrom 0 d.scope.names []).map (·.1)).Nodup) = true) (hln : lnB d.scope "script" = true)
    (tA : zipW (toS 60) iA sA = sA) (oA : zipB (okS 60 d.scope) iA sA = true) (tB : zipW (toS 60) iB sB = sB) (oB : zipB (okS 60 d.scope) iB sB = true) (tC : zipW (toS 60) iC sC = sC) (oC : zipB (okS 60 d.scope) iC sC = true)
    (t1 : toS 60 s1 (.guardAny x1 e1 k1 T1 y1) = s1) (o1 : okG d.scope s1 x1 e1 T1 = true) (t2 : toS 60 s2 (.guardAny x2 e2 k2 T2 y2) = s2) (o2 : okG d.scope s2 x2 e2 T2 = true) (hpos : ∀ a : Addr, codeAmong (gpos s2) [rawInt (gpos s1).line, rawInt (gpos s1).col, .ref a] = none)
    (hgens : s.gens = #[]) (hmg : mg (nm "law") = some (.ref fa)) (hL : s.heap.IsList L vs.toArray) (hI : IntsAre vs zs) (hlen : zs.length ≤ 100)
    (hrun : blk (recN tbl consts 51) [("script", .val (.list (zs.map V.int)) true)] (iA ++ .guardAny x1 e1 k1 T1 y1 :: (iB ++ .guardAny x2 e2 k2 T2 y2 :: iC)) = .ok (.ret (.bool true) true, φ'))
    (H : ∀ s' : Shared, OldK s.heap s'.heap → s'.os = s.os → AllBare s'.gens → Q (.bool true) s') :
    wpAny (model prog w) callerA (call (.ref fa) [.ref L]) Q E s := by
  have hm := List.mem_of_find?_eq_some hd
  have hn : d.name = nm "law" := eq_of_beq (List.find?_some (p := fun d : DefRec => d.name == nm "law") hd)
  obtain ⟨ha, hargs⟩ := parB_ok hpar
  obtain ⟨fa', o, pm, code, doc, f1, f2, f3, f4⟩ := T.fn d hm
  obtain ⟨fb, ob', fd', cA, P, g1, g2, g3, g4, hcode, htab⟩ := T.tab d hm
  rw [hn, hmg] at f1 g1
  cases f1; cases g1
  rw [f2] at g2; cases g2
  rw [f3] at g3; cases g3
  obtain ⟨bm, ob, b1, b2, b3, b4, b5, b6⟩ := T.bmain
  have hP := htab.2
  have S₀ : Stat (prog, w) s.heap mg mb consts := ⟨T.g, T.b, T.nolimit, T.builtins, freeB_ok T hfree, fun x d hd => conB_ok T W Lv (hcon x d hd)⟩
  have S := S₀.hide hP
  have hT : TblOk (hideAll s.heap [P]) mg tbl := fun f ps body h => let ⟨fa, e, F⟩ := defB_ok T (hdefs f ps body h).1 (hdefs f ps body h).2.1 (hdefs f ps body h).2.2; ⟨fa, e, F.hide hP⟩
  have hA := (all_sound S hT 51).1
  have hA' := (all_sound S hT 50).1
  obtain ⟨c1, c2, c3, c4⟩ := of_decide_eq_true hsc
  have hvl : vs.length ≤ sizeLine := by rw [hI.length]; exact Nat.le_trans hlen (Nat.le_trans (by decide) big_size)
  obtain ⟨oL, ho, hc, nL, hdL⟩ := hL
  have hPL : P ≠ L := fun z => by rw [← z, hP] at ho; cases ho; cases hc
  have hPn : (hideAll s.heap [P]).get? P = none := hideAll_none _ (.head _)
  refine call_frame (c := cx0) (n := 51) (ps := ["script"]) (E' := [P]) (Ω₀ := []) (φ₀ := [("script", .val (.list (zs.map V.int)) true)]) S (hid hP f2 (by rw [f3]; exact fun z => nomatch z)) f3 rfl rfl rfl rfl c1 c2 c3 (rec_hide hP f4) (fun s vals hl => BindsTo.of_eq (by rw [ha]; exact hbi _ _ _ _ _ _ _ _ hargs hl)) (fun q hq => by rw [List.mem_singleton] at hq; rw [hq]; exact lnB_ok hln) c4 (List.nodup_cons.mpr ⟨(fun z => nomatch z), List.nodup_nil⟩) (cx0_ok (by decide))
    ⟨fun _ _ e => of_hideAll _ e, trivial, fun b hb => nomatch hb⟩ rfl (fun a ha => by rw [List.mem_singleton] at ha; subst ha; exact ⟨⟨_, hP⟩, hPn⟩) (fun a ha => nomatch ha) List.nodup_nil ?_ (fun _ _ => rfl) ?_ (fun b hb => nomatch hb) ?_
  · intro h₀ own keep hown x sl hsl
    rw [List.lookup_cons] at hsl
    by_cases ex : x = "script"
    · subst ex
      simp only [beq_self_eq_true, Option.some.injEq] at hsl
      subst hsl
      refine ⟨.ref L, rfl, .ref L, rfl, .list ⟨fun _ z => hPL (List.mem_singleton.mp z).symm, fun z => ?_⟩ (keep _ _ ho) hc hdL hvl (ints_RA hI)⟩
      rcases List.mem_append.mp z with z | z
      · rw [hown L z] at ho; cases ho
      · cases z
    · rw [beq_eq_false_iff_ne.mpr ex] at hsl; cases hsl
  · intro x ds z
    rw [List.lookup_cons] at z
    split at z
    · cases z
    · cases z
  · intro env h₀ tk₀ hok hframe hscope hcd hown keep hst hkp
    have hfs : Cx.fs ⟨env, cx0.A.deeper env, env :: cx0.stk⟩ = [env.locals] := by
      show List.filterMap _ (env :: cx0.stk) = _
      rw [List.filterMap_cons, hframe]; rfl
    have K₀ : Keep4 s.heap P ⟨env, cx0.A.deeper env, env :: cx0.stk⟩ [] h₀ := ⟨fun b o _ e => keep b o e, ⟨_, keep _ _ hP⟩, (fun a ha => by
      rcases List.mem_append.mp ha with ha | ha
      · exact hown a ha
      · cases ha), fun a ha => by rw [hfs, List.mem_singleton] at ha; rw [ha]; exact hown _ (.head _)⟩
    have C₀ : CodeSt h₀ cA P #[] mainGlobals mg bm ob := ⟨hcode.keeps keep, htab.keeps keep, ⟨S.g.keeps hst.st.stay, b1, b2, keep _ _ b3, b4, b5, b6⟩, S.nolimit.keeps hst.st.stay⟩
    have eP : ∃ o, s.heap.get? P = some o := ⟨_, hP⟩
    have there : ∀ b, b = cA ∨ b = P ∨ b = bm → ∃ o, s.heap.get? b = some o := fun b hb => by
      rcases hb with rfl | rfl | rfl
      · obtain ⟨⟨o, _, e, _⟩, _⟩ := htab; exact ⟨o, e⟩
      · exact eP
      · exact ⟨_, b3⟩
    have cY : ∀ {Ω : List (String × Addr)} {h : Heap}, Keep4 s.heap P ⟨env, cx0.A.deeper env, env :: cx0.stk⟩ Ω h → ∀ b, b = cA ∨ b = P ∨ b = bm → b ∉ (Cx.Y ⟨env, cx0.A.deeper env, env :: cx0.stk⟩ Ω) := fun K b hb z => by
      obtain ⟨o, e⟩ := there b hb; rw [K.fresh b z] at e; cases e
    have CB4 : ∀ {is : List IS} {as : List Stmt}, zipW (toS 60) is as = as → zipB (okS 60 d.scope) is as = true → CB env.scope as is := fun {is as} t o => by
      have q := mkB t o; rw [t] at q; rw [hscope]; exact q
    have hfn : Cx.Fn ⟨env, cx0.A.deeper env, env :: cx0.stk⟩ := ⟨⟨[], rfl⟩, hframe⟩
    have hok' := hok.le (show 50 ≤ 51 by decide)
    have hg : env.code = .ref cA := hcd.trans g4
    -- the end, from any state
    have fin : ∀ {Ω : List (String × Addr)} {ps : Array Value} {t : Shared}, Keep4 s.heap P ⟨env, cx0.A.deeper env, env :: cx0.stk⟩ Ω t.heap → CodeSt t.heap cA P ps mainGlobals mg bm ob → AllBare t.gens → t.os = s.os → ∀ q : Fl × Frm, q = (.ret (.bool true) true, φ') →
        ExPost (prog, w) (hideAll s.heap [P]) ⟨env, cx0.A.deeper env, env :: cx0.stk⟩ [P] Ω t (fun f s' => Q (match f with | .ret v => v | _ => .none) s') q := by
      rintro Ω ps t K C G hos q rfl flow h' tk Ω' hfl k g st'
      cases flow <;> first | exact hfl.elim | skip
      have hv : R (prog, w) _ h' _ (.bool true) := hfl
      cases hv
      exact H { t with heap := h', toks := tk } ((K.step k g eP).oldK htab (C.kpY k (cY K) S st'.st.stay)) hos G
    have HG : G (blk (recN tbl consts 51) [("script", .val (.list (zs.map V.int)) true)] (iA ++ .guardAny x1 e1 k1 T1 y1 :: (iB ++ .guardAny x2 e2 k2 T2 y2 :: iC))) (fun q => q = (.ret (.bool true) true, φ')) (fun _ => False) := by
      rw [hrun]; exact rfl
    rw [show (_ : List Stmt) = _ from hbody]
    refine blk_rest (c := ⟨env, cx0.A.deeper env, env :: cx0.stk⟩) (s := { s with heap := h₀, toks := tk₀ }) hA.ex hok hfn ⟨PassesOwn.leaving, fun hd => PassesOwnAt.leaving⟩ (CB4 tA oA) hst (HG.app.mono (fun p _ Hp => ?_) fun _ _ z => z.elim)
    have G₀ : AllBare s.gens := by rw [hgens]; exact fun g hg => by simp at hg
    obtain ⟨f, φ₁⟩ := p
    cases f with
    | cont => exact fin (t := { s with heap := h₀, toks := tk₀ }) K₀ C₀ G₀ rfl _ Hp
    | brk => exact fin (t := { s with heap := h₀, toks := tk₀ }) K₀ C₀ G₀ rfl _ Hp
    | ret dd ff => exact fin (t := { s with heap := h₀, toks := tk₀ }) K₀ C₀ G₀ rfl _ Hp
    | next =>
    intro h₁ tk₁ Ω₁ k₁ gr₁ st₁
    have K₁ := K₀.step k₁ gr₁ eP
    have C₁ := C₀.kpY k₁ (cY K₀) S st₁.st.stay
    have Hp := G.bind (res := exI (recN tbl consts 50) φ₁ (.guardAny x1 e1 k1 T1 y1)) Hp
    refine wpAny_execs_cons (guard_stmt (c := ⟨env, cx0.A.deeper env, env :: cx0.stk⟩) (s := { s with heap := h₁, toks := tk₁ }) S hA'.ev hok' st₁ C₁ G₀ hg rfl (cY K₁ P (.inr (.inl rfl))) (.head _) hma t1 (by rw [hscope]; exact o1) (Hp.mono (fun q hq Hq c₁ t₂ st₂ C₂ G₂ os₂ k₂ => ?_) fun _ _ z => z.elim))
    cases guard_res hq
    have K₂ : Keep4 s.heap P ⟨env, cx0.A.deeper env, env :: cx0.stk⟩ Ω₁ t₂.heap := ⟨fun b o hb e => k₂ b o hb (fun z => by rw [K₁.frames b z] at e; cases e) (K₁.old b o hb e), ⟨_, C₂.tab.2⟩, K₁.fresh, K₁.frames⟩
    have HB : G (blk (recN tbl consts 51) φ₁ (iB ++ .guardAny x2 e2 k2 T2 y2 :: iC)) (fun q => q = (.ret (.bool true) true, φ')) (fun _ => False) := Hq
    refine blk_rest (c := ⟨env, cx0.A.deeper env, env :: cx0.stk⟩) (s := t₂) hA.ex hok hfn ⟨PassesOwn.leaving, fun hd => PassesOwnAt.leaving⟩ (CB4 tB oB) st₂ (HB.app.mono (fun p _ Hp => ?_) fun _ _ z => z.elim)
    obtain ⟨f, φ₂⟩ := p
    cases f with
    | cont => exact fin (t := t₂) K₂ C₂ G₂ os₂ _ Hp
    | brk => exact fin (t := t₂) K₂ C₂ G₂ os₂ _ Hp
    | ret dd ff => exact fin (t := t₂) K₂ C₂ G₂ os₂ _ Hp
    | next =>
    intro h₃ tk₃ Ω₃ k₃ gr₃ st₃
    have K₃ := K₂.step k₃ gr₃ eP
    have C₃ := C₂.kpY k₃ (cY K₂) S st₃.st.stay
    have Hp := G.bind (res := exI (recN tbl consts 50) φ₂ (.guardAny x2 e2 k2 T2 y2)) Hp
    have hnf : codeAmong (gpos s2) (#[] ++ #[rawInt (gpos s1).line, rawInt (gpos s1).col, .ref c₁]).toList = none := by
      simpa using hpos c₁
    refine wpAny_execs_cons (guard_stmt (c := ⟨env, cx0.A.deeper env, env :: cx0.stk⟩) (s := { t₂ with heap := h₃, toks := tk₃ }) S hA'.ev hok' st₃ C₃ G₂ hg hnf (cY K₃ P (.inr (.inl rfl))) (.head _) hma t2 (by rw [hscope]; exact o2) (Hp.mono (fun q hq Hq c₂ t₄ st₄ C₄ G₄ os₄ k₄ => ?_) fun _ _ z => z.elim))
    cases guard_res hq
    have K₄ : Keep4 s.heap P ⟨env, cx0.A.deeper env, env :: cx0.stk⟩ Ω₃ t₄.heap := ⟨fun b o hb e => k₄ b o hb (fun z => by rw [K₃.frames b z] at e; cases e) (K₃.old b o hb e), ⟨_, C₄.tab.2⟩, K₃.fresh, K₃.frames⟩
    have HC : G (blk (recN tbl consts 51) φ₂ iC) (fun q => q = (.ret (.bool true) true, φ')) (fun _ => False) := Hq
    exact blk_sound (c := ⟨env, cx0.A.deeper env, env :: cx0.stk⟩) (s := t₄) hA.ex hok hfn ⟨PassesOwn.leaving, fun hd => PassesOwnAt.leaving⟩ (CB4 tC oC) st₄ (HC.mono (fun p _ Hp => fin (t := t₄) K₄ C₄ G₄ (os₄.trans os₂) p Hp) fun _ _ z => z.elim)
end Mine
end

section
set_option Elab.async false
namespace Mine
open PySem

/-! ## law 5: the pure side -/
/-- get (true) or put; the key; the value -/
structure Deed where
  get : Bool
  key : PySem.Str
  val : Int
abbrev Cch := List (PySem.Str × Int)
noncomputable def keys (c : Cch) : List PySem.Str := c.map (·.1)
noncomputable def hstep (cap : Int) (acc : Cch) (t : PySem.Str × Int) : Cch := if (acc.length : Int) < cap ∧ t.1 ∉ keys acc then t :: acc else acc
noncomputable def held (cap : Int) (log : Cch) : Cch := log.reverse.foldl (hstep cap) []
noncomputable def off (k : PySem.Str) (c : Cch) : Cch := c.filter fun p => p.1 ≠ k
/-- the cache, with the key laid at its end -/
noncomputable def laid (cap : Int) (c : Cch) (k : PySem.Str) (v : Int) : V × Cch :=
  if k ∈ keys c then (.str (PySem.Str.ofString ""), off k c ++ [(k, v)])
  else if cap ≤ (c.length : Int) then (match c with | p :: c' => (.str p.1, c' ++ [(k, v)]) | [] => (.str (PySem.Str.ofString ""), [(k, v)]))
  else (.str (PySem.Str.ofString ""), c ++ [(k, v)])
noncomputable def stp (cap : Int) (c : Cch) (d : Deed) : V × Cch :=
  if d.get then (match c.lookup d.key with | some v => (.int v, off d.key c ++ [(d.key, v)]) | none => (.none, c))
  else laid cap c d.key d.val
noncomputable def run (cap : Int) : Cch → List Deed → List V × Cch
  | c, [] => ([], c)
  | c, d :: ds => ((stp cap c d).1 :: (run cap (stp cap c d).2 ds).1, (run cap (stp cap c d).2 ds).2)

theorem off_none {k : PySem.Str} {c : Cch} (h : k ∉ keys c) : off k c = c :=
  List.filter_eq_self.mpr fun p hp => decide_eq_true fun z => h (List.mem_map.mpr ⟨p, hp, z⟩)
theorem keys_off {k : PySem.Str} (c : Cch) : keys (off k c) = (keys c).filter (· ≠ k) := by
  unfold keys off; rw [List.filter_map]; rfl
theorem mem_off {k x : PySem.Str} {c : Cch} : x ∈ keys (off k c) ↔ x ∈ keys c ∧ x ≠ k := by
  rw [keys_off, List.mem_filter]; simp
theorem keys_app (a b : Cch) : keys (a ++ b) = keys a ++ keys b := List.map_append
theorem lookup_keys {c : Cch} {k : PySem.Str} : c.lookup k = none ↔ k ∉ keys c := by
  induction c with
  | nil => simp [keys]
  | cons p c ih =>
    obtain ⟨a, b⟩ := p
    rw [List.lookup_cons]
    unfold keys at ih ⊢
    by_cases e : k = a
    · subst e; simp
    · rw [beq_eq_false_iff_ne.mpr e]; simp only [List.map_cons, List.mem_cons, not_or]; exact ih.trans ⟨fun z => ⟨e, z⟩, fun z => z.2⟩
theorem off_len {k : PySem.Str} {c : Cch} (hn : (keys c).Nodup) (h : k ∈ keys c) : (off k c).length + 1 = c.length := by
  induction c with
  | nil => simp [keys] at h
  | cons p c ih =>
    obtain ⟨a, b⟩ := p
    have hn' := List.nodup_cons.mp hn
    unfold off
    by_cases e : a = k
    · subst e
      rw [List.filter_cons_of_neg (by simp)]
      have := off_none (k := a) (c := c) hn'.1
      unfold off at this
      rw [this]; rfl
    · rw [List.filter_cons_of_pos (by simpa using e)]
      have : k ∈ keys c := by
        unfold keys at h ⊢
        simp only [List.map_cons, List.mem_cons] at h
        exact h.resolve_left fun z => e z.symm
      have := ih hn'.2 this
      unfold off at this
      simp only [List.length_cons]; omega
/-- the two runs, side by side -/
noncomputable def Twin (c : Nat) (k : PySem.Str) (a1 a2 : Cch) : Prop := (k ∉ keys a2 ∧ a1 = a2 ∧ a2.length ≤ c) ∨ (k ∈ keys a2 ∧ a1 = off k a2) ∨ (k ∉ keys a2 ∧ a2.length = c + 1 ∧ ∃ t, a2 = t :: a1)
theorem held_snoc_aux {c : Nat} {k : PySem.Str} {v : Int} : ∀ (l : Cch) {a1 a2 : Cch}, (keys a2).Nodup → a2.length ≤ c + 1 → Twin c k a1 a2 →
    ∃ b1 b2, l.foldl (hstep ((c + 1 : Nat) : Int)) (a1 ++ [(k, v)]) = b1 ++ [(k, v)] ∧ l.foldl (hstep ((c + 1 : Nat) : Int)) a2 = b2 ∧ (keys b2).Nodup ∧ b2.length ≤ c + 1 ∧ Twin c k b1 b2 := by
  intro v0
  induction v0 with
  | nil => intro a1 a2 hn hl h; exact ⟨a1, a2, rfl, rfl, hn, hl, h⟩
  | cons t l ih =>
    intro a1 a2 hn hl h
    have step : ∃ a1' a2', hstep ((c + 1 : Nat) : Int) (a1 ++ [(k, v)]) t = a1' ++ [(k, v)] ∧ hstep ((c + 1 : Nat) : Int) a2 t = a2' ∧ (keys a2').Nodup ∧ a2'.length ≤ c + 1 ∧ Twin c k a1' a2' := by
      unfold hstep
      have hk1 : ∀ x : PySem.Str, x ∈ keys (a1 ++ [(k, v)]) ↔ x ∈ keys a1 ∨ x = k := fun x => by rw [keys_app]; simp [keys]
      have hlen : (a1 ++ [(k, v)]).length = a1.length + 1 := by simp
      rcases h with ⟨hk, rfl, hle⟩ | ⟨hk, rfl⟩ | ⟨hk, hle, t0, rfl⟩
      · -- the same so far
        by_cases c1 : ((a1.length : Nat) : Int) < ((c + 1 : Nat) : Int) ∧ t.1 ∉ keys a1
        · rw [if_pos c1]
          have hn' : (keys (t :: a1)).Nodup := List.nodup_cons.mpr ⟨c1.2, hn⟩
          by_cases e : t.1 = k
          · -- the key comes in the second run
            rw [if_neg (fun z => z.2 ((hk1 _).mpr (.inr e)))]
            refine ⟨a1, t :: a1, rfl, rfl, hn', by simp; omega, .inr (.inl ⟨by unfold keys; simp [e], ?_⟩)⟩
            show a1 = off k (t :: a1)
            unfold off
            rw [List.filter_cons_of_neg (by simp [e])]
            exact (off_none hk).symm
          · by_cases c2 : a1.length < c
            · rw [if_pos ⟨by rw [hlen]; omega, fun z => by rcases (hk1 _).mp z with z | z; exact c1.2 z; exact e z⟩]
              exact ⟨t :: a1, t :: a1, rfl, rfl, hn', by simp; omega, .inl ⟨by unfold keys; simp only [List.map_cons, List.mem_cons, not_or]; exact ⟨Ne.symm e, hk⟩, rfl, by simp; omega⟩⟩
            · rw [if_neg (fun z => by have := z.1; rw [hlen] at this; omega)]
              exact ⟨a1, t :: a1, rfl, rfl, hn', by simp; omega, .inr (.inr ⟨by unfold keys; simp only [List.map_cons, List.mem_cons, not_or]; exact ⟨Ne.symm e, hk⟩, by simp; omega, t, rfl⟩)⟩
        · rw [if_neg c1, if_neg (fun z => c1 ⟨by have := z.1; rw [hlen] at this; omega, fun q => z.2 ((hk1 _).mpr (.inl q))⟩)]
          exact ⟨a1, a1, rfl, rfl, hn, hl, .inl ⟨hk, rfl, hle⟩⟩
      · -- the second run has it
        have hol := off_len hn hk
        have hmem : t.1 ∈ keys (off k a2 ++ [(k, v)]) ↔ t.1 ∈ keys a2 := by
          rw [hk1, mem_off]
          exact ⟨fun z => by rcases z with z | z; exact z.1; rw [z]; exact hk, fun z => by by_cases e : t.1 = k; exact .inr e; exact .inl ⟨z, e⟩⟩
        have hl2 : ((off k a2 ++ [(k, v)]).length : Int) = (a2.length : Int) := by rw [hlen]; omega
        by_cases c1 : ((a2.length : Nat) : Int) < ((c + 1 : Nat) : Int) ∧ t.1 ∉ keys a2
        · rw [if_pos c1, if_pos ⟨by rw [hl2]; exact c1.1, fun z => c1.2 (hmem.mp z)⟩]
          have e : t.1 ≠ k := fun z => c1.2 (z ▸ hk)
          refine ⟨t :: off k a2, t :: a2, rfl, rfl, List.nodup_cons.mpr ⟨c1.2, hn⟩, by simp; omega, .inr (.inl ⟨by unfold keys; exact List.mem_cons_of_mem _ hk, ?_⟩)⟩
          unfold off
          rw [List.filter_cons_of_pos (by simpa using e)]
        · rw [if_neg c1, if_neg (fun z => c1 ⟨by rw [← hl2]; exact z.1, fun q => z.2 (hmem.mpr q)⟩)]
          exact ⟨off k a2, a2, rfl, rfl, hn, hl, .inr (.inl ⟨hk, rfl⟩)⟩
      · -- both full
        rw [if_neg (fun z => by have := z.1; rw [hlen] at this; simp at hle; omega), if_neg (fun z => by have := z.1; omega)]
        exact ⟨a1, t0 :: a1, rfl, rfl, hn, hl, .inr (.inr ⟨hk, hle, t0, rfl⟩)⟩
    obtain ⟨a1', a2', e1, e2, n', l', tw⟩ := step
    obtain ⟨b1, b2, q1, q2, q3⟩ := ih n' l' tw
    exact ⟨b1, b2, by rw [List.foldl_cons, e1]; exact q1, by rw [List.foldl_cons, e2]; exact q2, q3⟩
theorem held_snoc {cap : Int} (hc : 1 ≤ cap) (log : Cch) (k : PySem.Str) (v : Int) : held cap (log ++ [(k, v)]) = (laid cap (held cap log) k v).2 ∧ (keys (held cap log)).Nodup ∧ ((held cap log).length : Int) ≤ cap := by
  obtain ⟨c, rfl⟩ : ∃ c : Nat, cap = ((c + 1 : Nat) : Int) := ⟨(cap - 1).toNat, by omega⟩
  obtain ⟨b1, b2, q1, q2, q3, q4, q5⟩ := held_snoc_aux (c := c) (k := k) (v := v) log.reverse (a1 := []) (a2 := []) List.nodup_nil (by simp) (.inl ⟨by simp [keys], rfl, by simp⟩)
  have e2 : held ((c + 1 : Nat) : Int) log = b2 := q2
  have e1 : held ((c + 1 : Nat) : Int) (log ++ [(k, v)]) = b1 ++ [(k, v)] := by
    unfold held
    rw [List.reverse_append]
    show List.foldl _ (hstep _ [] (k, v)) log.reverse = _
    have : hstep ((c + 1 : Nat) : Int) [] (k, v) = [] ++ [(k, v)] := by unfold hstep; rw [if_pos ⟨by simp, by simp [keys]⟩]; rfl
    rw [this]; exact q1
  rw [e1, e2]
  refine ⟨?_, q3, by omega⟩
  unfold laid
  rcases q5 with ⟨hk, rfl, hle⟩ | ⟨hk, rfl⟩ | ⟨hk, hle, t0, rfl⟩
  · rw [if_neg hk, if_neg (by omega)]
  · rw [if_pos hk]
  · rw [if_neg hk, if_pos (by omega)]
end Mine
end

section
set_option Elab.async false
set_option linter.unusedSimpArgs false
namespace Mine
open PySem
section
variable {tbl : Tbl} {consts : String → Option V} {n : Nat} {φ : Frm}
theorem ev_succ {e : IE} : (recN tbl consts (n + 1)).ev φ e = evI consts (recN tbl consts n) φ e := rfl
theorem ts_succ {t : TE} : (recN tbl consts (n + 1)).ts φ t = tsI (recN tbl consts n) φ t := rfl
theorem ex_succ {i : IS} : (recN tbl consts (n + 1)).ex φ i = exI (recN tbl consts n) φ i := rfl
theorem fn_succ {f : String} {us : List (V × Bool)} : (recN tbl consts (n + 1)).fn f us = fnI tbl (recN tbl consts n) f us := rfl
theorem fm_succ {f : String} {kvs : List (PySem.Str × V)} {us : List (V × Bool)} : (recN tbl consts (n + 1)).fm f kvs us = fmI tbl (recN tbl consts n) f kvs us := rfl
theorem has_succ {f : String} : (recN tbl consts (n + 1)).has f = (tbl f).isSome := rfl
section
variable {α β : Type}
theorem ok_bind {a : α} {f : α → Res β} : (Res.ok a).bind f = f a := rfl
theorem exc_bind {m : Msg} {f : α → Res β} : (Res.exc m : Res α).bind f = .exc m := rfl
theorem bad_bind {f : α → Res β} : (Res.bad : Res α).bind f = .bad := rfl
end
section
variable {α β : Type}
theorem onInt_ok {i : Int} {f : Int → Res α} : onInt (.int i) f = f i := rfl
theorem onStr_ok {i : PySem.Str} {f : PySem.Str → Res α} : onStr (.str i) f = f i := rfl
theorem onList_ok {i : List V} {f : List V → Res α} : onList (.list i) f = f i := rfl
theorem onTup_ok {i : List V} {f : List V → Res α} : onTup (.tuple i) f = f i := rfl
theorem onO_ok {b : β} {f : β → Res α} : onO (some b) f = f b := rfl
theorem onTab_ok {kvs : List (PySem.Str × V)} {f : List (PySem.Str × V) → Res α} : onTab (some (.tab kvs)) f = f kvs := rfl
theorem onAcc_ok {ds : List V} {f : List V → Res α} : onAcc (some (.acc ds)) f = f ds := rfl
theorem arg0_ok {r : Res V} : arg0 [] r = r := rfl
theorem arg1_ok {d : V} {f : V → Res V} : arg1 [d] f = f d := rfl
end
theorem atom_none : V.atom .none = true := rfl
theorem atom_bool {b : Bool} : V.atom (.bool b) = true := rfl
theorem atom_int {i : Int} : V.atom (.int i) = true := rfl
theorem atom_str {x : PySem.Str} : V.atom (.str x) = true := rfl
theorem atom_tuple {ds : List V} : V.atom (.tuple ds) = false := rfl
theorem atom_list {ds : List V} : V.atom (.list ds) = false := rfl
/-- what comes behind a statement -/
noncomputable def thenB (r : Rec) (is : List IS) (p : Fl × Frm) : Res (Fl × Frm) := match p.1 with
  | .next => blk r p.2 is
  | f => .ok (f, p.2)
theorem blk_nil {r : Rec} : blk r φ [] = .ok (.next, φ) := rfl
theorem blk_cons {r : Rec} {i : IS} {is : List IS} : blk r φ (i :: is) = (r.ex φ i).bind (thenB r is) := rfl
theorem next_then {r : Rec} {is : List IS} : thenB r is (.next, φ) = blk r φ is := rfl
theorem ret_then {r : Rec} {is : List IS} {d : V} {f : Bool} : thenB r is (.ret d f, φ) = .ok (.ret d f, φ) := rfl
theorem cont_then {r : Rec} {is : List IS} : thenB r is (.cont, φ) = .ok (.cont, φ) := rfl
theorem brk_then {r : Rec} {is : List IS} : thenB r is (.brk, φ) = .ok (.brk, φ) := rfl
end

noncomputable def pairV (p : PySem.Str × Int) : V := .tuple [.str p.1, .int p.2]
noncomputable def deedV (d : Deed) : V := .tuple [.str (if d.get then PySem.Str.ofString "get" else PySem.Str.ofString "put"), .str d.key, .int d.val]
noncomputable def tv (c : Cch) : List (PySem.Str × V) := c.map fun p => (p.1, V.int p.2)
theorem tv_look (c : Cch) (k : PySem.Str) : (tv c).lookup k = (c.lookup k).map V.int := by
  induction c with
  | nil => rfl
  | cons p c ih =>
    obtain ⟨a, b⟩ := p
    show List.lookup k ((a, V.int b) :: tv c) = _
    rw [List.lookup_cons, List.lookup_cons]
    cases k == a
    · exact ih
    · rfl
theorem tv_del (c : Cch) (k : PySem.Str) : dictDel k (tv c) = tv (off k c) := by
  unfold dictDel tv off; rw [List.filter_map]; rfl
theorem tv_len (c : Cch) : (tv c).length = c.length := List.length_map _
theorem tv_put {c : Cch} {k : PySem.Str} {v : Int} (h : k ∉ keys c) : dictPut (tv c) k (.int v) = tv (c ++ [(k, v)]) := by
  unfold dictPut
  rw [if_neg]
  · unfold tv; rw [List.map_append]; rfl
  · simp only [List.any_eq_true, decide_eq_true_eq, not_exists, not_and]
    intro p hp e
    obtain ⟨q, hq, rfl⟩ := List.mem_map.mp hp
    exact h (List.mem_map.mpr ⟨q, hq, e⟩)
theorem off_mem (c : Cch) (k : PySem.Str) : k ∉ keys (off k c) := fun z => (mem_off.mp z).2 rfl
theorem off_le (c : Cch) (k : PySem.Str) : (off k c).length ≤ c.length := List.length_filter_le _ _
namespace L4
open Mine
theorem t_cache_get : tbl "cache_get" = some (["cache", "key"], b_cache_get) := rfl
theorem t_cache_put_fast : tbl "cache_put_fast" = some (["cache", "key", "value", "capacity"], b_cache_put_fast) := rfl
section
variable {n : Nat} {c : Cch} {k : PySem.Str} {v cap : Int} {f f1 f2 f3 : Bool}
theorem cache_get_ok (d : Deed) (hd : d.get = true) (hl : c.length ≤ 1000) : (recN tbl consts (n+8)).fm "cache_get" (tv c) [(.str d.key, f)] = .ok (((stp cap c d).1, true), tv (stp cap c d).2) := by
  unfold stp
  rw [if_pos hd]
  cases h : c.lookup d.key with
  | none =>
    have h' : (tv c).lookup d.key = none := by rw [tv_look, h]; rfl
    simp [fm_succ, fn_succ, has_succ, fmI, fnI, blk_nil, blk_cons, next_then, ex_succ, exI, ts_succ, tsI, ev_succ, evI, ok_bind, exc_bind, bad_bind, List.lookup_cons, List.lookup_nil, cmpV, inV, eqV, eqD, freeze, upd, fzV, evs, fzs, truthV, atom_none, atom_bool, atom_int, atom_str, atom_tuple, atom_list, lenV, indexV, allI, anyI, binV, appI, iterI, evIt, condI, vals, Slot.kept, onInt_ok, onStr_ok, onList_ok, onTup_ok, onO_ok, onTab_ok, onAcc_ok, arg0_ok, arg1_ok, addV, ltV, atV, t_cache_get, b_cache_get, ret_then, h']
  | some v =>
    have h' : (tv c).lookup d.key = some (.int v) := by rw [tv_look, h]; rfl
    have hl' : (off d.key c).length ≤ 1000 := Nat.le_trans (off_le _ _) hl
    simp [fm_succ, fn_succ, has_succ, fmI, fnI, blk_nil, blk_cons, next_then, ex_succ, exI, ts_succ, tsI, ev_succ, evI, ok_bind, exc_bind, bad_bind, List.lookup_cons, List.lookup_nil, cmpV, inV, eqV, eqD, freeze, upd, fzV, evs, fzs, truthV, atom_none, atom_bool, atom_int, atom_str, atom_tuple, atom_list, lenV, indexV, allI, anyI, binV, appI, iterI, evIt, condI, vals, Slot.kept, onInt_ok, onStr_ok, onList_ok, onTup_ok, onO_ok, onTab_ok, onAcc_ok, arg0_ok, arg1_ok, addV, ltV, atV, t_cache_get, b_cache_get, ret_then, h', tv_len, tv_del, hl, hl', tv_put (off_mem _ _)]
theorem cache_put_fast_ok (hc : 1 ≤ cap) (hn : (keys c).Nodup) (hl : c.length ≤ 1000) : (recN tbl consts (n+8)).fm "cache_put_fast" (tv c) [(.str k, f1), (.int v, f2), (.int cap, f3)] = .ok (((laid cap c k v).1, true), tv (laid cap c k v).2) := by
  unfold laid
  by_cases hk : k ∈ keys c
  · rw [if_pos hk]
    obtain ⟨u, hu⟩ : ∃ u, c.lookup k = some u := by cases q : c.lookup k with | none => exact absurd hk (lookup_keys.mp q) | some u => exact ⟨u, rfl⟩
    have h' : (tv c).lookup k = some (.int u) := by rw [tv_look, hu]; rfl
    have hl' : (off k c).length ≤ 1000 := Nat.le_trans (off_le _ _) hl
    simp [fm_succ, fn_succ, has_succ, fmI, fnI, blk_nil, blk_cons, next_then, ex_succ, exI, ts_succ, tsI, ev_succ, evI, ok_bind, exc_bind, bad_bind, List.lookup_cons, List.lookup_nil, cmpV, inV, eqV, eqD, freeze, upd, fzV, evs, fzs, truthV, atom_none, atom_bool, atom_int, atom_str, atom_tuple, atom_list, lenV, indexV, allI, anyI, binV, appI, iterI, evIt, condI, vals, Slot.kept, onInt_ok, onStr_ok, onList_ok, onTup_ok, onO_ok, onTab_ok, onAcc_ok, arg0_ok, arg1_ok, addV, ltV, atV, t_cache_put_fast, b_cache_put_fast, ret_then, h', tv_len, tv_del, hl, hl', tv_put (off_mem _ _)]
  · rw [if_neg hk]
    have h' : (tv c).lookup k = none := by rw [tv_look, lookup_keys.mpr hk]; rfl
    by_cases hcap : cap ≤ (c.length : Int)
    · rw [if_pos hcap]
      cases c with
      | nil => simp at hcap; omega
      | cons p c =>
        have hl1 : c.length ≤ 1000 := by simp at hl; omega
        have hl2 : c.length + 1 ≤ 1000 := by simpa using hl
        have hl3 : c.length ≤ 999 := by omega
        have hcap' : cap ≤ (c.length : Int) + 1 := by simpa using hcap
        have e : tv (p :: c) = (p.1, V.int p.2) :: tv c := rfl
        have hk' : k ∉ keys c := fun z => hk (List.mem_cons_of_mem _ z)
        have hp : p.1 ∉ keys c := (List.nodup_cons.mp hn).1
        have hdel : dictDel p.1 ((p.1, V.int p.2) :: tv c) = tv c := by
          rw [← e, tv_del]
          show tv (List.filter _ _) = _
          rw [List.filter_cons_of_neg (by simp)]
          exact congrArg tv (off_none hp)
        have hlk : k ≠ p.1 := fun z => hk (by rw [z]; exact .head _)
        have h'' : (tv c).lookup k = none := by rw [tv_look, lookup_keys.mpr hk']; rfl
        simp [fm_succ, fn_succ, has_succ, fmI, fnI, blk_nil, blk_cons, next_then, ex_succ, exI, ts_succ, tsI, ev_succ, evI, ok_bind, exc_bind, bad_bind, List.lookup_cons, List.lookup_nil, cmpV, inV, eqV, eqD, freeze, upd, fzV, evs, fzs, truthV, atom_none, atom_bool, atom_int, atom_str, atom_tuple, atom_list, lenV, indexV, allI, anyI, binV, appI, iterI, evIt, condI, vals, Slot.kept, onInt_ok, onStr_ok, onList_ok, onTup_ok, onO_ok, onTab_ok, onAcc_ok, arg0_ok, arg1_ok, addV, ltV, atV, t_cache_put_fast, b_cache_put_fast, ret_then, e, tv_len, hdel, hl1, hl2, hl3, hcap', tv_put hk', beq_eq_false_iff_ne.mpr hlk, h'']
    · rw [if_neg hcap]
      simp [fm_succ, fn_succ, has_succ, fmI, fnI, blk_nil, blk_cons, next_then, ex_succ, exI, ts_succ, tsI, ev_succ, evI, ok_bind, exc_bind, bad_bind, List.lookup_cons, List.lookup_nil, cmpV, inV, eqV, eqD, freeze, upd, fzV, evs, fzs, truthV, atom_none, atom_bool, atom_int, atom_str, atom_tuple, atom_list, lenV, indexV, allI, anyI, binV, appI, iterI, evIt, condI, vals, Slot.kept, onInt_ok, onStr_ok, onList_ok, onTup_ok, onO_ok, onTab_ok, onAcc_ok, arg0_ok, arg1_ok, addV, ltV, atV, t_cache_put_fast, b_cache_put_fast, ret_then, h', tv_len, tv_del, hl, tv_put hk, hcap]
end
end L4
end Mine
end

section
set_option Elab.async false
set_option linter.unusedSimpArgs false
namespace Mine
open PySem
/-- what comes behind a turn -/
noncomputable def afterL (r : Rec) (bnd : V × Bool → Frm → Res Frm) (body : List IS) (us : List (V × Bool)) (p : Fl × Frm) : Res (Fl × Frm) := match p.1 with
  | .next => loopG r bnd body p.2 us
  | .cont => loopG r bnd body p.2 us
  | .brk => .ok (.next, p.2)
  | .ret d f => .ok (.ret d f, p.2)
section
variable {r : Rec} {bnd : V × Bool → Frm → Res Frm} {body : List IS} {u : V × Bool} {us : List (V × Bool)} {φ : Frm}
theorem loopG_nil : loopG r bnd body φ [] = .ok (.next, φ) := rfl
theorem loopG_cons : loopG r bnd body φ (u :: us) = (bnd u φ).bind fun φ' => (blk r φ' body).bind (afterL r bnd body us) := rfl
theorem next_after : afterL r bnd body us (.next, φ) = loopG r bnd body φ us := rfl
theorem cont_after : afterL r bnd body us (.cont, φ) = loopG r bnd body φ us := rfl
theorem ret_after {d : V} {f : Bool} : afterL r bnd body us (.ret d f, φ) = .ok (.ret d f, φ) := rfl
end
section
variable {cap : Int} {c : Cch} {d : Deed}
theorem keys_snoc {k : PySem.Str} {v : Int} (hn : (keys c).Nodup) (hk : k ∉ keys c) : (keys (c ++ [(k, v)])).Nodup := by
  rw [keys_app]
  refine List.nodup_append.mpr ⟨hn, by simp [keys], ?_⟩
  intro a ha b hb
  simp only [keys, List.map_cons, List.map_nil, List.mem_singleton] at hb
  subst hb
  exact fun z => hk (z ▸ ha)
theorem keys_moved {k : PySem.Str} {v : Int} (hn : (keys c).Nodup) : (keys (off k c ++ [(k, v)])).Nodup :=
  keys_snoc (by rw [keys_off]; exact hn.filter _) (off_mem _ _)
theorem laid_nodup {k : PySem.Str} {v : Int} (hn : (keys c).Nodup) : (keys (laid cap c k v).2).Nodup := by
  unfold laid
  by_cases hk : k ∈ keys c
  · rw [if_pos hk]; exact keys_moved hn
  · rw [if_neg hk]
    by_cases hcap : cap ≤ (c.length : Int)
    · rw [if_pos hcap]
      cases c with
      | nil => simp [keys]
      | cons p c => exact keys_snoc (List.nodup_cons.mp hn).2 fun z => hk (List.mem_cons_of_mem _ z)
    · rw [if_neg hcap]; exact keys_snoc hn hk
theorem laid_len {k : PySem.Str} {v : Int} : (laid cap c k v).2.length ≤ c.length + 1 := by
  unfold laid
  have := off_le c k
  split
  · simp; omega
  · split
    · cases c with
      | nil => simp
      | cons p c => simp
    · simp
theorem stp_nodup (hn : (keys c).Nodup) : (keys (stp cap c d).2).Nodup := by
  unfold stp
  split
  · split
    · exact keys_moved hn
    · exact hn
  · exact laid_nodup hn
theorem stp_len : (stp cap c d).2.length ≤ c.length + 1 := by
  unfold stp
  have := off_le c d.key
  split
  · split
    · simp; omega
    · simp
  · exact laid_len
/-- an answer, what it can be -/
noncomputable def ansV : V → Prop
  | .none => True
  | .int _ => True
  | .str _ => True
  | _ => False
theorem laid_ans {k : PySem.Str} {v : Int} : ∃ x, (laid cap c k v).1 = .str x ∧ (x = PySem.Str.ofString "" ∨ x ∈ keys c) := by
  unfold laid
  split
  · exact ⟨_, rfl, .inl rfl⟩
  · split
    · cases c with
      | nil => exact ⟨_, rfl, .inl rfl⟩
      | cons p c => exact ⟨_, rfl, .inr (.head _)⟩
    · exact ⟨_, rfl, .inl rfl⟩
theorem stp_atom : (stp cap c d).1.atom = true := by
  unfold stp
  split
  · split <;> rfl
  · obtain ⟨x, e, _⟩ := laid_ans (cap := cap) (c := c) (k := d.key) (v := d.val); rw [e]; rfl
end
theorem run_cons {cap : Int} {c : Cch} {d : Deed} {ds : List Deed} : run cap c (d :: ds) = ((stp cap c d).1 :: (run cap (stp cap c d).2 ds).1, (run cap (stp cap c d).2 ds).2) := rfl
theorem run_len {cap : Int} {c : Cch} {ds : List Deed} : (run cap c ds).2.length ≤ c.length + ds.length := by
  induction ds generalizing c with
  | nil => exact Nat.le_refl _
  | cons d ds ih =>
    rw [run_cons]
    have := ih (c := (stp cap c d).2)
    have := stp_len (cap := cap) (c := c) (d := d)
    simp only [List.length_cons]; omega
theorem run_nodup {cap : Int} {c : Cch} {ds : List Deed} (h : (keys c).Nodup) : (keys (run cap c ds).2).Nodup := by
  induction ds generalizing c with
  | nil => exact h
  | cons d ds ih => rw [run_cons]; exact ih (stp_nodup h)
theorem get_ne : (PySem.Str.ofString "put" == PySem.Str.ofString "get") = false := by decide
namespace L4
open Mine
section
variable {n : Nat} {cap : Int} {f : Bool}
noncomputable def tb (put : String) : List IS := [.ite (.cmp .eq (.index (.var "op") (.const (.int 0))) (.const (.str (PySem.Str.ofString "get")))) [.appendMut "gave" "cache_get" "cache" [.index (.var "op") (.const (.int 1))]] [.appendMut "gave" put "cache" [.index (.var "op") (.const (.int 1)),
  .index (.var "op") (.const (.int 2)),
  .var "capacity"]]]
theorem loop_play {put : String} (hc : 1 ≤ cap) (hhas : (tbl put).isSome = true)
    (hput : ∀ {n : Nat} {c : Cch} {k : PySem.Str} {v : Int} {f1 f2 f3 : Bool}, (keys c).Nodup → c.length ≤ 1000 → (recN tbl consts (n+8)).fm put (tv c) [(.str k, f1), (.int v, f2), (.int cap, f3)] = .ok (((laid cap c k v).1, true), tv (laid cap c k v).2)) :
    ∀ (ds : List Deed) (φ : Frm) (c : Cch) (gave : List V), (keys c).Nodup → c.length + ds.length ≤ 900 → gave.length + ds.length ≤ 900 → φ.lookup "cache" = some (.tab (tv c)) → φ.lookup "gave" = some (.acc gave) → φ.lookup "capacity" = some (.val (.int cap) f) →
    ∃ φ', loopG (recN tbl consts (n+20)) (bnd1 "op") (tb put) φ (ds.map fun d => (deedV d, true)) = .ok (.next, φ') ∧ φ'.lookup "cache" = some (.tab (tv (run cap c ds).2)) ∧ φ'.lookup "gave" = some (.acc (gave ++ (run cap c ds).1)) := by
  intro v0
  induction v0 with
  | nil => intro φ c gave _ _ _ h1 h2 _; exact ⟨φ, rfl, h1, by rw [h2]; simp [run]⟩
  | cons d ds ih =>
    intro φ c gave hn hl hg h1 h2 h3
    have hl' : c.length ≤ 1000 := by omega
    have hgl : gave.length < lim := by unfold lim; omega
    have hlen := stp_len (cap := cap) (c := c) (d := d)
    have hat := stp_atom (cap := cap) (c := c) (d := d)
    obtain ⟨φ', q1, q2, q3⟩ := ih (upd "gave" (.acc (gave ++ [(stp cap c d).1])) (upd "cache" (.tab (tv (stp cap c d).2)) (upd "op" (.val (deedV d) true) φ))) (stp cap c d).2 (gave ++ [(stp cap c d).1]) (stp_nodup hn) (by simp at hl; omega) (by simp at hg ⊢; omega)
      (by simp [upd_lookup]) (by simp [upd_lookup]) (by simp [upd_lookup, h3])
    refine ⟨φ', ?_, ?_, ?_⟩
    · rw [List.map_cons]
      rw [← q1]
      cases hd : d.get with
      | true =>
        have hget := cache_get_ok (n := n + 10) (cap := cap) (c := c) (f := true) d hd hl'
        simp [has_succ, blk_nil, blk_cons, next_then, ex_succ, exI, ts_succ, tsI, ev_succ, evI, ok_bind, exc_bind, bad_bind, upd_lookup, cmpV, inV, eqV, eqD, fzV, evs, fzs, truthV, atom_none, atom_bool, atom_int, atom_str, atom_tuple, atom_list, lenV, indexV, allI, anyI, binV, appI, iterI, evIt, condI, bnd1, bndN, loopG_nil, loopG_cons, next_after, cont_after, onInt_ok, onStr_ok, onList_ok, onTup_ok, onO_ok, onTab_ok, onAcc_ok, arg0_ok, arg1_ok, addV, ltV, atV, tb, h1, h2, h3, deedV, hd, t_cache_get, hget, hgl, hat]
      | false =>
        have e : stp cap c d = laid cap c d.key d.val := by unfold stp; rw [hd]; rfl
        rw [e] at hat ⊢
        have hget := hput (n := n + 10) (c := c) (k := d.key) (v := d.val) (f1 := true) (f2 := true) (f3 := f) hn hl'
        simp [has_succ, blk_nil, blk_cons, next_then, ex_succ, exI, ts_succ, tsI, ev_succ, evI, ok_bind, exc_bind, bad_bind, upd_lookup, cmpV, inV, eqV, eqD, fzV, evs, fzs, truthV, atom_none, atom_bool, atom_int, atom_str, atom_tuple, atom_list, lenV, indexV, allI, anyI, binV, appI, iterI, evIt, condI, bnd1, bndN, loopG_nil, loopG_cons, next_after, cont_after, onInt_ok, onStr_ok, onList_ok, onTup_ok, onO_ok, onTab_ok, onAcc_ok, arg0_ok, arg1_ok, addV, ltV, atV, tb, h1, h2, h3, deedV, hd, hhas, hget, hgl, hat, get_ne]
    · rw [run_cons]; exact q2
    · rw [run_cons, q3]; simp
theorem t_play_cache_fast : tbl "play_cache_fast" = some (["ops", "capacity"], b_play_cache_fast) := rfl
noncomputable def outV (cap : Int) (ds : List Deed) : V := .tuple [.list (run cap [] ds).1, .list ((run cap [] ds).2.map pairV)]
theorem tv_items (c : Cch) : (tv c).map (fun p => V.tuple [.str p.1, p.2]) = c.map pairV := by
  unfold tv; rw [List.map_map]; rfl
theorem play_any {put name : String} (hc : 1 ≤ cap) (hhas : (tbl put).isSome = true)
    (hput : ∀ {n : Nat} {c : Cch} {k : PySem.Str} {v : Int} {f1 f2 f3 : Bool}, (keys c).Nodup → c.length ≤ 1000 → (recN tbl consts (n+8)).fm put (tv c) [(.str k, f1), (.int v, f2), (.int cap, f3)] = .ok (((laid cap c k v).1, true), tv (laid cap c k v).2))
    (hb : tbl name = some (["ops", "capacity"], [.newTab "cache", .newAcc "gave", .for1 "op" (.plain (.var "ops")) (tb put), .ret (.tuple [.var "gave", .items "cache"])]))
    (ds : List Deed) (hl : ds.length ≤ 900) : (recN tbl consts (n + 22)).fn name [(.list (ds.map deedV), true), (.int cap, f)] = .ok (outV cap ds, true) := by
  obtain ⟨φ', q1, q2, q3⟩ := loop_play (n := n) (f := f) hc hhas hput ds [("ops", .val (.list (ds.map deedV)) true), ("capacity", .val (.int cap) f), ("cache", .tab []), ("gave", .acc [])] [] [] (by simp [keys]) (by simpa using hl) (by simpa using hl)
    rfl rfl rfl
  have e : ((ds.map deedV).map fun d => (d, true)) = ds.map fun d => (deedV d, true) := by rw [List.map_map]; rfl
  have hr' : (run cap [] ds).2.length ≤ 1000 := by have := run_len (cap := cap) (c := []) (ds := ds); simp at this; omega
  simp [fn_succ, fnI, hb, has_succ, blk_nil, blk_cons, next_then, ex_succ, exI, ts_succ, tsI, ev_succ, evI, ok_bind, exc_bind, bad_bind, upd_lookup, cmpV, inV, eqV, eqD, fzV, evs, fzs, truthV, atom_none, atom_bool, atom_int, atom_str, atom_tuple, atom_list, lenV, indexV, allI, anyI, binV, appI, iterI, evIt, condI, bnd1, bndN, loopG_nil, loopG_cons, next_after, cont_after, onInt_ok, onStr_ok, onList_ok, onTup_ok, onO_ok, onTab_ok, onAcc_ok, arg0_ok, arg1_ok, addV, ltV, atV, upd, List.lookup_cons, e, q1, q2, q3, freeze_lookup, frz, ret_then, tv_len, hr', lim, tv_items, outV]
theorem play_cache_fast_ok (hc : 1 ≤ cap) (ds : List Deed) (hl : ds.length ≤ 900) : (recN tbl consts (n + 22)).fn "play_cache_fast" [(.list (ds.map deedV), true), (.int cap, f)] = .ok (outV cap ds, true) :=
  play_any hc rfl (fun hn hl => cache_put_fast_ok hc hn hl) rfl ds hl
end
end L4
end Mine
end

section
set_option Elab.async false
set_option linter.unusedSimpArgs false
set_option maxRecDepth 100000
namespace Mine
open PySem
section
variable {cap : Int} {c : Cch} {d : Deed}
end
/-- a list made by filtering -/
theorem compI_nil {r : Rec} {φ : Frm} {e : IE} {x : String} {cond : Option TE} : compI r φ e x cond [] = .ok [] := rfl
theorem compI_yes {r : Rec} {φ : Frm} {elt : IE} {x : String} {cond : Option TE} {u : V × Bool} {us : List (V × Bool)} {e : V} (hc : condI r (upd x (.val u.1 u.2) φ) cond = .ok true) (he : (r.ev (upd x (.val u.1 u.2) φ) elt).bind fzV = .ok e) :
    compI r φ elt x cond (u :: us) = (compI r φ elt x cond us).bind fun es => .ok (e :: es) := by
  conv => lhs; unfold compI
  rw [hc]
  dsimp only
  rw [he]
theorem compI_no {r : Rec} {φ : Frm} {elt : IE} {x : String} {cond : Option TE} {u : V × Bool} {us : List (V × Bool)} (hc : condI r (upd x (.val u.1 u.2) φ) cond = .ok false) : compI r φ elt x cond (u :: us) = compI r φ elt x cond us := by
  conv => lhs; unfold compI
  rw [hc]
section
variable {tbl : Tbl} {consts : String → Option V} {n : Nat} {ψ : Frm} {x key : String} {k : PySem.Str} {fk : Bool}
end
theorem pairV_mk {a : PySem.Str} {b : Int} : pairV (a, b) = .tuple [.str a, .int b] := rfl
theorem pairs_flag (c : Cch) : c.map ((fun d => (d, true)) ∘ pairV) = c.map fun p => (pairV p, true) := rfl
theorem strsOf_map : ∀ ks : List PySem.Str, strsOf (ks.map V.str) = some ks
  | [] => rfl
  | k :: ks => by show (strsOf (ks.map V.str)).map (k :: ·) = _; rw [strsOf_map ks]; rfl
theorem any_key {ks : List PySem.Str} {k : PySem.Str} : (ks.any (· == k)) = decide (k ∈ ks) := by
  induction ks with
  | nil => rfl
  | cons a ks ih => rw [List.any_cons, ih]; by_cases e : a = k
                    · subst e; simp
                    · simp [e, beq_eq_false_iff_ne.mpr e, Ne.symm e]
section
variable {tbl : Tbl} {consts : String → Option V} {n : Nat} {ψ : Frm} {x : String}
end
theorem idx21 {a b : V} : indexV (.tuple [a, b]) (.int 1) = .ok b := rfl
section
variable {cap : Int}
end
end Mine
end

section
set_option Elab.async false
set_option linter.unusedSimpArgs false
set_option maxRecDepth 100000
namespace Mine
open PySem
theorem len_app (a b : PySem.Str) : (a ++ b).length = a.length + b.length := by
  obtain ⟨a⟩ := a; obtain ⟨b⟩ := b
  show (a ++ b).size = _
  rw [Array.size_append]; rfl
theorem fmod_fin (a : Int) (m : Nat) (hm : 0 < m) : ∃ i : Fin m, a.fmod (m : Int) = ((i.val : Nat) : Int) := by
  have h1 : 0 ≤ a.fmod (m : Int) := Int.fmod_nonneg_of_pos a (by omega)
  have h2 : a.fmod (m : Int) < m := Int.fmod_lt_of_pos a (by omega)
  exact ⟨⟨(a.fmod m).toNat, by omega⟩, by simp; omega⟩
theorem idx20 {a b : V} : indexV (.tuple [a, b]) (.int 0) = .ok a := rfl
theorem idx30 {a b c : V} : indexV (.tuple [a, b, c]) (.int 0) = .ok a := rfl
theorem idx31 {a b c : V} : indexV (.tuple [a, b, c]) (.int 1) = .ok b := rfl
theorem idx32 {a b c : V} : indexV (.tuple [a, b, c]) (.int 2) = .ok c := rfl
namespace L4
open Mine
abbrev S (x : String) : PySem.Str := PySem.Str.ofString x
end L4
end Mine
end

section
set_option Elab.async false
set_option linter.unusedSimpArgs false
set_option maxRecDepth 100000
namespace Mine
open PySem
namespace L4
open Mine
noncomputable def lineTxt (i : Int) (m : PySem.Str) : PySem.Str := PySem.Str.ofString "line " ++ PySem.Str.ofString (toString i) ++ PySem.Str.ofString ": " ++ m
noncomputable def tbody : List IS := [.assign "words" (.meth .split0 (.var "line") []),
  .ite (.or [.not (.tt (.var "words")),
  .tt (.meth .startswith (.index (.var "words") (.const (.int 0))) [.const (.str (PySem.Str.ofString "#"))])]) [.cont] [],
  .tryLine (.and [.cmp .eq (.index (.var "words") (.const (.int 0))) (.const (.str (PySem.Str.ofString "get"))),
  .cmp .eq (.len (.var "words")) (.const (.int 2))]) "ops" (.tuple [.const (.str (PySem.Str.ofString "get")),
  .call "check_name" [.index (.var "words") (.const (.int 1))],
  .const (.int 0)]) (.and [.cmp .eq (.index (.var "words") (.const (.int 0))) (.const (.str (PySem.Str.ofString "put"))),
  .cmp .eq (.len (.var "words")) (.const (.int 3))]) (.tuple [.const (.str (PySem.Str.ofString "put")),
  .call "check_name" [.index (.var "words") (.const (.int 1))],
  .call "parse_signed" [.index (.var "words") (.const (.int 2))]]) (.const (.str (PySem.Str.ofString "expected 'get KEY' or 'put KEY VALUE'"))) "number"]
theorem t_check_name : tbl "check_name" = some (["text"], b_check_name) := rfl
theorem t_parse_signed : tbl "parse_signed" = some (["text"], b_parse_signed) := rfl
theorem get_eq : (PySem.Str.ofString "get" == PySem.Str.ofString "get") = true := by decide
theorem put_eq : (PySem.Str.ofString "put" == PySem.Str.ofString "put") = true := by decide
theorem get_hash : Txt.startswith (PySem.Str.ofString "get") (PySem.Str.ofString "#") = false := by decide +kernel
theorem put_hash : Txt.startswith (PySem.Str.ofString "put") (PySem.Str.ofString "#") = false := by decide +kernel
section
variable {n : Nat} {φ : Frm} {ds : List V} {i : Int} {f : Bool} {x : PySem.Str}
theorem body_nil (h3 : φ.lookup "line" = some (.val (.str x) true)) (hx : x.length ≤ 1000000) (hw : Txt.words x = []) :
    blk (recN tbl consts (n + 30)) φ tbody = .ok (.cont, upd "words" (.val (.list []) true) φ) := by
  simp [has_succ, blk_nil, blk_cons, next_then, ex_succ, exI, ts_succ, tsI, ev_succ, evI, ok_bind, exc_bind, bad_bind, upd_lookup, cmpV, inV, eqV, eqD, fzV, evs, fzs, truthV, atom_none, atom_bool, atom_int, atom_str, atom_tuple, atom_list, lenV, indexV, allI, anyI, binV, appI, iterI, evIt, condI, bnd1, bndN, loopG_nil, loopG_cons, next_after, cont_after, onInt_ok, onStr_ok, onList_ok, onTup_ok, onO_ok, onTab_ok, onAcc_ok, arg0_ok, arg1_ok, addV, ltV, atV, tbody, h3, hx, hw, methV, lim, cont_then]
theorem body_hash {w : PySem.Str} {r : List PySem.Str} (h3 : φ.lookup "line" = some (.val (.str x) true)) (hx : x.length ≤ 1000000) (hw : Txt.words x = w :: r) (hh : Txt.startswith w (PySem.Str.ofString "#") = true) :
    blk (recN tbl consts (n + 30)) φ tbody = .ok (.cont, upd "words" (.val (.list ((w :: r).map V.str)) true) φ) := by
  simp [has_succ, blk_nil, blk_cons, next_then, ex_succ, exI, ts_succ, tsI, ev_succ, evI, ok_bind, exc_bind, bad_bind, upd_lookup, cmpV, inV, eqV, eqD, fzV, evs, fzs, truthV, atom_none, atom_bool, atom_int, atom_str, atom_tuple, atom_list, lenV, indexV, allI, anyI, binV, appI, iterI, evIt, condI, bnd1, bndN, loopG_nil, loopG_cons, next_after, cont_after, onInt_ok, onStr_ok, onList_ok, onTup_ok, onO_ok, onTab_ok, onAcc_ok, arg0_ok, arg1_ok, addV, ltV, atV, tbody, h3, hx, hw, methV, lim, cont_then, hh]
theorem body_get {k : PySem.Str} (h1 : φ.lookup "ops" = some (.acc ds)) (h3 : φ.lookup "line" = some (.val (.str x) true)) (hx : x.length ≤ 1000000) (hl : ds.length < 1000000) (hw : Txt.words x = [PySem.Str.ofString "get", k])
    (hc : (recN tbl consts (n + 27)).fn "check_name" [(.str k, true)] = .ok (.str k, true)) :
    blk (recN tbl consts (n + 30)) φ tbody = .ok (.next, upd "ops" (.acc (ds ++ [deedV ⟨true, k, 0⟩])) (upd "words" (.val (.list [.str (PySem.Str.ofString "get"), .str k]) true) φ)) := by
  simp [has_succ, blk_nil, blk_cons, next_then, ex_succ, exI, ts_succ, tsI, ev_succ, evI, ok_bind, exc_bind, bad_bind, upd_lookup, cmpV, inV, eqV, eqD, fzV, evs, fzs, truthV, atom_none, atom_bool, atom_int, atom_str, atom_tuple, atom_list, lenV, indexV, allI, anyI, binV, appI, iterI, evIt, condI, bnd1, bndN, loopG_nil, loopG_cons, next_after, cont_after, onInt_ok, onStr_ok, onList_ok, onTup_ok, onO_ok, onTab_ok, onAcc_ok, arg0_ok, arg1_ok, addV, ltV, atV, tbody, h1, h3, hx, hw, methV, lim, get_hash, tryLineI, t_check_name, hc, hl, deedV]
theorem body_get_exc {k m : PySem.Str} (h1 : φ.lookup "ops" = some (.acc ds)) (h2 : φ.lookup "number" = some (.val (.int i) f)) (h3 : φ.lookup "line" = some (.val (.str x) true)) (hx : x.length ≤ 1000000) (hi : i.natAbs < 2 ^ 60) (hm : m.length ≤ 100000) (hw : Txt.words x = [PySem.Str.ofString "get", k])
    (hc : (recN tbl consts (n + 27)).fn "check_name" [(.str k, true)] = .exc (m, true)) :
    blk (recN tbl consts (n + 30)) φ tbody = .exc (lineTxt i m, false) := by
  have hi' : i.natAbs < 1152921504606846976 := hi
  simp [has_succ, blk_nil, blk_cons, next_then, ex_succ, exI, ts_succ, tsI, ev_succ, evI, ok_bind, exc_bind, bad_bind, upd_lookup, cmpV, inV, eqV, eqD, fzV, evs, fzs, truthV, atom_none, atom_bool, atom_int, atom_str, atom_tuple, atom_list, lenV, indexV, allI, anyI, binV, appI, iterI, evIt, condI, bnd1, bndN, loopG_nil, loopG_cons, next_after, cont_after, onInt_ok, onStr_ok, onList_ok, onTup_ok, onO_ok, onTab_ok, onAcc_ok, arg0_ok, arg1_ok, addV, ltV, atV, tbody, h1, h2, h3, hx, hw, methV, lim, get_hash, tryLineI, t_check_name, hc, hi', hm, lineTxt]
theorem body_put {k t : PySem.Str} {v : Int} (h1 : φ.lookup "ops" = some (.acc ds)) (h3 : φ.lookup "line" = some (.val (.str x) true)) (hx : x.length ≤ 1000000) (hl : ds.length < 1000000) (hw : Txt.words x = [PySem.Str.ofString "put", k, t])
    (hc : (recN tbl consts (n + 27)).fn "check_name" [(.str k, true)] = .ok (.str k, true)) (hp : (recN tbl consts (n + 27)).fn "parse_signed" [(.str t, true)] = .ok (.int v, true)) :
    blk (recN tbl consts (n + 30)) φ tbody = .ok (.next, upd "ops" (.acc (ds ++ [deedV ⟨false, k, v⟩])) (upd "words" (.val (.list [.str (PySem.Str.ofString "put"), .str k, .str t]) true) φ)) := by
  simp [has_succ, blk_nil, blk_cons, next_then, ex_succ, exI, ts_succ, tsI, ev_succ, evI, ok_bind, exc_bind, bad_bind, upd_lookup, cmpV, inV, eqV, eqD, fzV, evs, fzs, truthV, atom_none, atom_bool, atom_int, atom_str, atom_tuple, atom_list, lenV, indexV, allI, anyI, binV, appI, iterI, evIt, condI, bnd1, bndN, loopG_nil, loopG_cons, next_after, cont_after, onInt_ok, onStr_ok, onList_ok, onTup_ok, onO_ok, onTab_ok, onAcc_ok, arg0_ok, arg1_ok, addV, ltV, atV, tbody, h1, h3, hx, hw, methV, lim, put_hash, tryLineI, t_check_name, t_parse_signed, hc, hp, hl, deedV, get_ne]
theorem body_put_exc {k t m : PySem.Str} (h1 : φ.lookup "ops" = some (.acc ds)) (h2 : φ.lookup "number" = some (.val (.int i) f)) (h3 : φ.lookup "line" = some (.val (.str x) true)) (hx : x.length ≤ 1000000) (hi : i.natAbs < 2 ^ 60) (hm : m.length ≤ 100000) (hw : Txt.words x = [PySem.Str.ofString "put", k, t])
    (hc : (recN tbl consts (n + 27)).fn "check_name" [(.str k, true)] = .ok (.str k, true)) (hp : (recN tbl consts (n + 27)).fn "parse_signed" [(.str t, true)] = .exc (m, true)) :
    blk (recN tbl consts (n + 30)) φ tbody = .exc (lineTxt i m, false) := by
  have hi' : i.natAbs < 1152921504606846976 := hi
  simp [has_succ, blk_nil, blk_cons, next_then, ex_succ, exI, ts_succ, tsI, ev_succ, evI, ok_bind, exc_bind, bad_bind, upd_lookup, cmpV, inV, eqV, eqD, fzV, evs, fzs, truthV, atom_none, atom_bool, atom_int, atom_str, atom_tuple, atom_list, lenV, indexV, allI, anyI, binV, appI, iterI, evIt, condI, bnd1, bndN, loopG_nil, loopG_cons, next_after, cont_after, onInt_ok, onStr_ok, onList_ok, onTup_ok, onO_ok, onTab_ok, onAcc_ok, arg0_ok, arg1_ok, addV, ltV, atV, tbody, h1, h2, h3, hx, hw, methV, lim, put_hash, tryLineI, t_check_name, t_parse_signed, hc, hp, hi', hm, lineTxt, get_ne]
theorem body_other {w : PySem.Str} {r : List PySem.Str} (h2 : φ.lookup "number" = some (.val (.int i) f)) (h3 : φ.lookup "line" = some (.val (.str x) true)) (hx : x.length ≤ 1000000) (hi : i.natAbs < 2 ^ 60) (hw : Txt.words x = w :: r) (hh : Txt.startswith w (PySem.Str.ofString "#") = false)
    (hg : w ≠ PySem.Str.ofString "get" ∨ r.length ≠ 1) (hp : w ≠ PySem.Str.ofString "put" ∨ r.length ≠ 2) :
    blk (recN tbl consts (n + 30)) φ tbody = .exc (lineTxt i (PySem.Str.ofString "expected 'get KEY' or 'put KEY VALUE'"), false) := by
  have hi' : i.natAbs < 1152921504606846976 := hi
  have hm : (PySem.Str.ofString "expected 'get KEY' or 'put KEY VALUE'").length ≤ 100000 := by decide
  by_cases e1 : w = PySem.Str.ofString "get"
  · have e2 : r.length ≠ 1 := hg.resolve_left fun z => z e1
    have e2' : ¬ ((r.length : Int) + 1 = 2) := by omega
    have e3 : (PySem.Str.ofString "get" == PySem.Str.ofString "put") = false := by decide
    subst e1
    simp [has_succ, blk_nil, blk_cons, next_then, ex_succ, exI, ts_succ, tsI, ev_succ, evI, ok_bind, exc_bind, bad_bind, upd_lookup, cmpV, inV, eqV, eqD, fzV, evs, fzs, truthV, atom_none, atom_bool, atom_int, atom_str, atom_tuple, atom_list, lenV, indexV, allI, anyI, binV, appI, iterI, evIt, condI, bnd1, bndN, loopG_nil, loopG_cons, next_after, cont_after, onInt_ok, onStr_ok, onList_ok, onTup_ok, onO_ok, onTab_ok, onAcc_ok, arg0_ok, arg1_ok, addV, ltV, atV, tbody, h2, h3, hx, hw, methV, lim, hh, tryLineI, hi', hm, lineTxt, e2', raiseI, e3, get_eq]
  · have e1' := beq_eq_false_iff_ne.mpr e1
    by_cases e2 : w = PySem.Str.ofString "put"
    · have e3 : r.length ≠ 2 := hp.resolve_left fun z => z e2
      have e3' : ¬ ((r.length : Int) + 1 = 3) := by omega
      subst e2
      simp [has_succ, blk_nil, blk_cons, next_then, ex_succ, exI, ts_succ, tsI, ev_succ, evI, ok_bind, exc_bind, bad_bind, upd_lookup, cmpV, inV, eqV, eqD, fzV, evs, fzs, truthV, atom_none, atom_bool, atom_int, atom_str, atom_tuple, atom_list, lenV, indexV, allI, anyI, binV, appI, iterI, evIt, condI, bnd1, bndN, loopG_nil, loopG_cons, next_after, cont_after, onInt_ok, onStr_ok, onList_ok, onTup_ok, onO_ok, onTab_ok, onAcc_ok, arg0_ok, arg1_ok, addV, ltV, atV, tbody, h2, h3, hx, hw, methV, lim, hh, tryLineI, hi', hm, lineTxt, e3', raiseI, e1', put_eq]
    · have e2' := beq_eq_false_iff_ne.mpr e2
      simp [has_succ, blk_nil, blk_cons, next_then, ex_succ, exI, ts_succ, tsI, ev_succ, evI, ok_bind, exc_bind, bad_bind, upd_lookup, cmpV, inV, eqV, eqD, fzV, evs, fzs, truthV, atom_none, atom_bool, atom_int, atom_str, atom_tuple, atom_list, lenV, indexV, allI, anyI, binV, appI, iterI, evIt, condI, bnd1, bndN, loopG_nil, loopG_cons, next_after, cont_after, onInt_ok, onStr_ok, onList_ok, onTup_ok, onO_ok, onTab_ok, onAcc_ok, arg0_ok, arg1_ok, addV, ltV, atV, tbody, h2, h3, hx, hw, methV, lim, hh, tryLineI, hi', hm, lineTxt, raiseI, e1', e2']
end
end L4
end Mine
end

section
set_option Elab.async false
set_option maxRecDepth 100000
namespace Mine
open PySem

/-! ## the words of a text that is laid out -/
noncomputable def spaces (y : PySem.Str) : Bool := y.cps.toList.all fun c => Unicode.isSpace c
noncomputable def solid (y : PySem.Str) : Bool := y.cps.toList.all fun c => !Unicode.isSpace c
theorem app_list (a b : PySem.Str) : (a ++ b).cps.toList = a.cps.toList ++ b.cps.toList := by
  obtain ⟨a⟩ := a; obtain ⟨b⟩ := b
  show (a ++ b).toList = _
  exact Array.toList_append
theorem str_ext {a b : PySem.Str} (h : a.cps.toList = b.cps.toList) : a = b := by
  obtain ⟨a⟩ := a; obtain ⟨b⟩ := b
  exact congrArg PySem.Str.mk (Array.toList_inj.mp h)
theorem app_ass (a b c : PySem.Str) : a ++ b ++ c = a ++ (b ++ c) := str_ext (by simp only [app_list, List.append_assoc])
theorem app_nil (a : PySem.Str) : a ++ PySem.Str.empty = a := str_ext (by rw [app_list]; exact List.append_nil _)
theorem nil_app (a : PySem.Str) : PySem.Str.empty ++ a = a := str_ext (by rw [app_list]; rfl)
theorem len_list (a : PySem.Str) : a.length = a.cps.toList.length := Array.length_toList.symm
theorem fold_solid {ws : List PySem.Str} : ∀ (l : List Nat) (r : PySem.Str), l.all (fun c => !Unicode.isSpace c) = true → l.foldl KWd.step (ws, r) = (ws, r ++ ⟨l.toArray⟩) := by
  intro v0
  induction v0 with
  | nil => intro r _; rw [show (⟨([] : List Nat).toArray⟩ : PySem.Str) = PySem.Str.empty from rfl, app_nil]; rfl
  | cons c l ih =>
    intro r h
    rw [List.all_cons, Bool.and_eq_true, Bool.not_eq_true'] at h
    have e : KWd.step (ws, r) c = (ws, r ++ ⟨#[c]⟩) := if_neg (by rw [h.1]; exact Bool.false_ne_true)
    rw [List.foldl_cons, e, ih _ h.2, app_ass]
    congr 2
    exact str_ext (by rw [app_list]; rfl)
theorem fold_spaces0 {ws : List PySem.Str} {r : PySem.Str} (hr : r.length = 0) : ∀ (l : List Nat), l.all (fun c => Unicode.isSpace c) = true → l.foldl KWd.step (ws, r) = (ws, r) := by
  intro v0
  induction v0 with
  | nil => intro _; exact rfl
  | cons c l ih =>
    intro h
    rw [List.all_cons, Bool.and_eq_true] at h
    have e : KWd.step (ws, r) c = (ws, r) := by unfold KWd.step; rw [if_pos h.1, if_pos hr]
    rw [List.foldl_cons, e]
    exact ih h.2
theorem fold_spaces {ws : List PySem.Str} {r : PySem.Str} (hr : r.length ≠ 0) : ∀ (l : List Nat), l ≠ [] → l.all (fun c => Unicode.isSpace c) = true → l.foldl KWd.step (ws, r) = (ws ++ [r], PySem.Str.empty) := by
  intro v0
  induction v0 with
  | nil => intro h _; exact absurd rfl h
  | cons c l ih =>
    intro _ h
    rw [List.all_cons, Bool.and_eq_true] at h
    have e : KWd.step (ws, r) c = (ws ++ [r], PySem.Str.empty) := by unfold KWd.step; rw [if_pos h.1, if_neg hr]
    rw [List.foldl_cons, e]
    exact fold_spaces0 rfl l h.2
theorem scan_app (a b : PySem.Str) : KWd.scan (a ++ b) = b.cps.toList.foldl KWd.step (KWd.scan a) := by
  unfold KWd.scan
  rw [app_list, List.foldl_append]
theorem words_two {a l b : PySem.Str} (ha : solid a = true) (ha0 : a.length ≠ 0) (hl : spaces l = true) (hl0 : l.cps.toList ≠ []) (hb : solid b = true) (hb0 : b.length ≠ 0) : Txt.words (a ++ l ++ b) = [a, b] := by
  rw [KWd.words_scan, scan_app, scan_app]
  have e0 : KWd.scan a = ([], PySem.Str.empty ++ a) := fold_solid _ _ ha
  rw [e0, nil_app, fold_spaces ha0 _ hl0 hl, fold_solid _ _ hb]
  show KWd.fin ([] ++ [a], PySem.Str.empty ++ b) = _
  rw [nil_app]
  unfold KWd.fin
  rw [if_neg hb0]; rfl
theorem words_three {a l b m c : PySem.Str} (ha : solid a = true) (ha0 : a.length ≠ 0) (hl : spaces l = true) (hl0 : l.cps.toList ≠ []) (hb : solid b = true) (hb0 : b.length ≠ 0) (hm : spaces m = true) (hm0 : m.cps.toList ≠ []) (hc : solid c = true) (hc0 : c.length ≠ 0) : Txt.words (a ++ l ++ b ++ m ++ c) = [a, b, c] := by
  rw [KWd.words_scan, scan_app, scan_app, scan_app, scan_app]
  have e0 : KWd.scan a = ([], PySem.Str.empty ++ a) := fold_solid _ _ ha
  rw [e0, nil_app, fold_spaces ha0 _ hl0 hl, fold_solid _ _ hb]
  show KWd.fin (List.foldl KWd.step (List.foldl KWd.step ([] ++ [a], PySem.Str.empty ++ b) _) _) = _
  rw [nil_app, fold_spaces hb0 _ hm0 hm, fold_solid _ _ hc]
  show KWd.fin ([] ++ [a] ++ [b], PySem.Str.empty ++ c) = _
  rw [nil_app]
  unfold KWd.fin
  rw [if_neg hc0]; rfl

/-! ## lines joined, then split -/
noncomputable def joinL (c : Nat) : List (List Nat) → List Nat
  | [] => []
  | [x] => x
  | x :: y :: r => x ++ c :: joinL c (y :: r)
theorem cut_eq {c : Nat} : ∀ {a b r s : List Nat}, c ∉ a → c ∉ b → a ++ c :: r = b ++ c :: s → a = b ∧ r = s
  | [], [], r, s, _, _, h => ⟨rfl, by simpa using h⟩
  | [], y :: b, r, s, _, hb, h => by simp at h; exact absurd h.1 fun z => hb (by rw [z]; exact .head _)
  | x :: a, [], r, s, ha, _, h => by simp at h; exact absurd h.1 fun z => ha (by rw [← z]; exact .head _)
  | x :: a, y :: b, r, s, ha, hb, h => by
    simp only [List.cons_append, List.cons.injEq] at h
    obtain ⟨e, q⟩ := cut_eq (fun z => ha (.tail _ z)) (fun z => hb (.tail _ z)) h.2
    exact ⟨by rw [h.1, e], q⟩
theorem joinL_inj {c : Nat} : ∀ {A B : List (List Nat)}, A ≠ [] → B ≠ [] → (∀ a ∈ A, c ∉ a) → (∀ b ∈ B, c ∉ b) → joinL c A = joinL c B → A = B
  | [], _, h, _, _, _, _ => absurd rfl h
  | _, [], _, h, _, _, _ => absurd rfl h
  | [a], [b], _, _, _, _, h => by simpa [joinL] using h
  | [a], b :: b' :: B, _, _, ha, _, h => by
    simp only [joinL] at h
    exact absurd (show c ∈ a by rw [h]; simp) (ha a (.head _))
  | a :: a' :: A, [b], _, _, _, hb, h => by
    simp only [joinL] at h
    exact absurd (show c ∈ b by rw [← h]; simp) (hb b (.head _))
  | a :: a' :: A, b :: b' :: B, _, _, ha, hb, h => by
    simp only [joinL] at h
    obtain ⟨e, q⟩ := cut_eq (ha a (.head _)) (hb b (.head _)) h
    rw [e, joinL_inj (by simp) (by simp) (fun x hx => ha x (.tail _ hx)) (fun x hx => hb x (.tail _ hx)) q]
theorem join_list (c : Nat) : ∀ xs : List PySem.Str, (PySem.Str.join ⟨#[c]⟩ xs).cps.toList = joinL c (xs.map fun x => x.cps.toList)
  | [] => rfl
  | [x] => rfl
  | x :: y :: r => by
    show (x ++ ⟨#[c]⟩ ++ PySem.Str.join ⟨#[c]⟩ (y :: r)).cps.toList = _
    rw [app_list, app_list, join_list c (y :: r)]
    simp [joinL]
theorem split_join {c : Nat} {xs : List PySem.Str} (h0 : xs ≠ []) (h : ∀ x ∈ xs, c ∉ x.cps.toList) : Txt.split (Txt.join ⟨#[c]⟩ xs) ⟨#[c]⟩ = xs := by
  have e1 : Txt.join ⟨#[c]⟩ xs = PySem.Str.join ⟨#[c]⟩ xs := StrLaws.glued_eq_join _ _
  rw [e1]
  have e2 := StrLaws.join_split (PySem.Str.join ⟨#[c]⟩ xs) ⟨#[c]⟩
  have e3 := congrArg (fun x : PySem.Str => x.cps.toList) e2
  simp only [join_list] at e3
  have e4 : ((Txt.split (PySem.Str.join ⟨#[c]⟩ xs) ⟨#[c]⟩).map fun x => x.cps.toList) = xs.map fun x => x.cps.toList := by
    refine joinL_inj (c := c) ?_ (by simpa using h0) ?_ ?_ e3
    · intro z
      have := PyProof.Rows.split_pos (PySem.Str.join ⟨#[c]⟩ xs) ⟨#[c]⟩
      rw [List.map_eq_nil_iff] at z
      rw [z] at this; simp at this
    · intro a ha
      obtain ⟨x, hx, rfl⟩ := List.mem_map.mp ha
      exact StrLaws.split_free _ c x hx
    · intro a ha
      obtain ⟨x, hx, rfl⟩ := List.mem_map.mp ha
      exact h x hx
  exact List.map_inj_right (fun a b q => str_ext q) |>.mp e4
end Mine
end

section
set_option Elab.async false
set_option linter.unusedSimpArgs false
set_option maxRecDepth 100000
namespace Mine
open PySem
/-- data that == knows -/
noncomputable def niceK : Nat → V → Bool
  | _, .none => true
  | _, .bool _ => true
  | _, .int _ => true
  | _, .str x => PyData.strOk x
  | k + 1, .tuple ds => ds.all (niceK k)
  | k + 1, .list ds => ds.all (niceK k)
  | _, _ => false
theorem niceK_pys {k : Nat} (H : ∀ d : V, niceK k d = true → ∃ p, V.py d = some p ∧ p.canLay0 = true ∧ p.depth ≤ k) (ds : List V) (h : ∀ d ∈ ds, niceK k d = true) : ∃ ps, V.pys ds = some ps ∧ PyData.canLayAll0 ps = true ∧ PyData.depthAll ps ≤ k := by
  induction ds with
  | nil => exact ⟨[], rfl, rfl, Nat.zero_le _⟩
  | cons d ds ih =>
    obtain ⟨p, e, h1, h2⟩ := H d (h d (.head _))
    obtain ⟨ps, e', h1', h2'⟩ := ih fun x hx => h x (.tail _ hx)
    exact ⟨p :: ps, by simp [V.pys, e, e'], by simp [PyData.canLayAll0, h1, h1'], by simp [PyData.depthAll]; omega⟩
theorem niceK_py (k : Nat) : ∀ d : V, niceK k d = true → ∃ p, V.py d = some p ∧ p.canLay0 = true ∧ p.depth ≤ k := by
  induction k with
  | zero =>
    intro d h
    cases d with
    | none => exact ⟨.none, rfl, rfl, Nat.zero_le _⟩
    | bool b => exact ⟨.bool b, rfl, rfl, Nat.zero_le _⟩
    | int i => exact ⟨.int i, rfl, rfl, Nat.zero_le _⟩
    | str x => exact ⟨.str x, rfl, by simpa [PyData.canLay0, niceK] using h, by simp [PyData.depth]⟩
    | tuple ds => cases h
    | list ds => cases h
    | flt x => cases h
    | dict ds => cases h
  | succ k ih =>
    intro d h
    cases d with
    | none => exact ⟨.none, rfl, rfl, Nat.zero_le _⟩
    | bool b => exact ⟨.bool b, rfl, rfl, Nat.zero_le _⟩
    | int i => exact ⟨.int i, rfl, rfl, Nat.zero_le _⟩
    | str x => exact ⟨.str x, rfl, by simpa [PyData.canLay0, niceK] using h, by simp [PyData.depth]⟩
    | tuple ds =>
      obtain ⟨ps, e, h1, h2⟩ := niceK_pys ih ds (by simpa [niceK] using h)
      exact ⟨.tuple ps, by simp [V.py, e], by simpa [PyData.canLay0] using h1, by simp [PyData.depth]; omega⟩
    | list ds =>
      obtain ⟨ps, e, h1, h2⟩ := niceK_pys ih ds (by simpa [niceK] using h)
      exact ⟨.list ps, by simp [V.py, e], by simpa [PyData.canLay0] using h1, by simp [PyData.depth]; omega⟩
    | flt x => cases h
    | dict ds => cases h
theorem eqD_refl {mk : List PyData → PyData} {ds : List V} {ps : List PyData} (e : V.pys ds = some ps) (h1 : (mk ps).canLay0 = true) (h2 : (mk ps).depth ≤ 20) : eqD mk ds ds = .ok true := by
  have sh : SeqAt.shaped (mk ps) = true := by unfold SeqAt.shaped; rw [h1]; simp; omega
  unfold eqD
  rw [e]
  exact (if_pos ⟨sh, sh⟩).trans (by rw [SeqAt.eqv_refl _ h1])
theorem eq_tuple {ds : List V} (h : niceK 20 (.tuple ds) = true) : eqV (.tuple ds) (.tuple ds) = .ok true := by
  obtain ⟨p, e, h1, h2⟩ := niceK_py _ _ h
  obtain ⟨ps, e', _, _⟩ := niceK_pys (niceK_py 19) ds (by simpa [niceK] using h)
  have ep : p = .tuple ps := by simp [V.py, e'] at e; exact e.symm
  subst ep
  exact eqD_refl (mk := .tuple) e' h1 h2
theorem eq_list {ds : List V} (h : niceK 20 (.list ds) = true) : eqV (.list ds) (.list ds) = .ok true := by
  obtain ⟨p, e, h1, h2⟩ := niceK_py _ _ h
  obtain ⟨ps, e', _, _⟩ := niceK_pys (niceK_py 19) ds (by simpa [niceK] using h)
  have ep : p = .list ps := by simp [V.py, e'] at e; exact e.symm
  subst ep
  exact eqD_refl (mk := .list) e' h1 h2
theorem blk_app {r : Rec} : ∀ {a b : List IS} {φ : Frm}, blk r φ (a ++ b) = (blk r φ a).bind (thenB r b) := by
  intro v0
  induction v0 with
  | nil => intro b φ; exact rfl
  | cons i a ih =>
    intro b φ
    rw [List.cons_append, blk_cons, blk_cons]
    cases r.ex φ i with
    | bad => rfl
    | exc m => rfl
    | ok p =>
      obtain ⟨fl, ψ⟩ := p
      cases fl with
      | next => exact ih
      | cont => rfl
      | brk => rfl
      | ret d f => rfl
theorem off_keys {k x : PySem.Str} {c : Cch} (h : x ∈ keys (off k c)) : x ∈ keys c := (mem_off.mp h).1
noncomputable def okC (c : Cch) : Prop := ∀ k ∈ keys c, PyData.strOk k = true
noncomputable def okA (a : V) : Prop := a = .none ∨ (∃ i, a = .int i) ∨ ∃ x, a = .str x ∧ PyData.strOk x = true
theorem okC_snoc {c : Cch} {k : PySem.Str} {v : Int} (h : okC c) (hk : PyData.strOk k = true) : okC (c ++ [(k, v)]) := by
  intro x hx
  rw [keys_app, List.mem_append] at hx
  rcases hx with hx | hx
  · exact h x hx
  · simp only [keys, List.map_cons, List.map_nil, List.mem_singleton] at hx
    rw [hx]; exact hk
theorem empty_ok : PyData.strOk (PySem.Str.ofString "") = true := by decide +kernel
theorem laid_okC {cap : Int} {c : Cch} {k : PySem.Str} {v : Int} (h : okC c) (hk : PyData.strOk k = true) : okC (laid cap c k v).2 ∧ okA (laid cap c k v).1 := by
  obtain ⟨x, e, hx⟩ := laid_ans (cap := cap) (c := c) (k := k) (v := v)
  refine ⟨?_, .inr (.inr ⟨x, e, ?_⟩)⟩
  · unfold laid
    split
    · exact okC_snoc (fun x hx => h x (off_keys hx)) hk
    · split
      · cases c with
        | nil => exact okC_snoc (c := []) (fun x hx => by simp [keys] at hx) hk
        | cons p c => exact okC_snoc (fun x hx => h x (List.mem_cons_of_mem _ hx)) hk
      · exact okC_snoc h hk
  · rcases hx with hx | hx
    · rw [hx]; exact empty_ok
    · exact h x hx
theorem stp_okC {cap : Int} {c : Cch} {d : Deed} (h : okC c) (hk : PyData.strOk d.key = true) : okC (stp cap c d).2 ∧ okA (stp cap c d).1 := by
  unfold stp
  split
  · split
    · exact ⟨okC_snoc (fun x hx => h x (off_keys hx)) hk, .inr (.inl ⟨_, rfl⟩)⟩
    · exact ⟨h, .inl rfl⟩
  · exact laid_okC h hk
theorem run_okC {cap : Int} : ∀ {ds : List Deed} {c : Cch}, okC c → (∀ d ∈ ds, PyData.strOk d.key = true) → okC (run cap c ds).2 ∧ ∀ a ∈ (run cap c ds).1, okA a := by
  intro v0
  induction v0 with
  | nil => intro c h _; exact ⟨h, fun _ h => nomatch h⟩
  | cons d ds ih =>
    intro c h hd
    obtain ⟨h1, h2⟩ := stp_okC (cap := cap) h (hd d (.head _))
    obtain ⟨h3, h4⟩ := ih h1 fun x hx => hd x (.tail _ hx)
    rw [run_cons]
    refine ⟨h3, fun a ha => ?_⟩
    rcases List.mem_cons.mp ha with rfl | ha
    · exact h2
    · exact h4 a ha
theorem okA_nice {a : V} (h : okA a) (k : Nat) : niceK k a = true := by
  rcases h with rfl | ⟨i, rfl⟩ | ⟨x, rfl, hx⟩
  · cases k <;> rfl
  · cases k <;> rfl
  · cases k <;> simpa [niceK] using hx
namespace L4
open Mine
theorem outV_nice {cap : Int} {ds : List Deed} (hd : ∀ d ∈ ds, PyData.strOk d.key = true) : niceK 20 (outV cap ds) = true := by
  obtain ⟨h1, h2⟩ := run_okC (cap := cap) (c := []) (ds := ds) (fun x hx => by simp [keys] at hx) hd
  have e1 : ∀ v ∈ (run cap [] ds).1, niceK 18 v = true := fun v hv => okA_nice (h2 v hv) 18
  have e2 : ∀ v ∈ (run cap [] ds).2.map pairV, niceK 18 v = true := by
    intro v hv
    obtain ⟨p, hp, rfl⟩ := List.mem_map.mp hv
    have := h1 p.1 (List.mem_map.mpr ⟨p, hp, rfl⟩)
    simp [niceK, pairV, this]
  simp only [outV, niceK, List.all_cons, List.all_nil, Bool.and_true, Bool.and_eq_true, List.all_eq_true]
  exact ⟨e1, e2⟩
end L4
end Mine
end

section
set_option Elab.async false
set_option linter.unusedSimpArgs false
set_option maxRecDepth 100000
namespace Mine
open PySem
namespace L4
open Mine
/-- a line of the trace, as the law's own rows tell it -/
structure Ln where
  text : PySem.Str
  shown : V
  deed : Option Deed
  why : PySem.Str
noncomputable def lnV (l : Ln) : V := .tuple [.str l.text, l.shown, .str l.why]
/-- what the reading of one line does -/
noncomputable def Turn (n : Nat) (φ : Frm) (ds : List V) (i : Int) (l : Ln) : Prop :=
  (l.why = S "" ∧ ∃ fl φ', (fl = .next ∨ fl = .cont) ∧ blk (recN tbl consts (n + 30)) φ tbody = .ok (fl, φ') ∧ φ'.lookup "ops" = some (.acc (ds ++ l.deed.toList.map deedV))) ∨
  (l.why ≠ S "" ∧ blk (recN tbl consts (n + 30)) φ tbody = .exc (lineTxt i l.why, false))
structure GoodLn (l : Ln) : Prop where
  len : l.text.length ≤ 5000
  plain : 10 ∉ l.text.cps.toList
  turn : ∀ n φ ds i f, φ.lookup "ops" = some (.acc ds) → φ.lookup "number" = some (.val (.int i) f) → ds.length < 1000000 → i.natAbs < 2 ^ 60 → φ.lookup "line" = some (.val (.str l.text) true) → Turn n φ ds i l
  said : l.why = S "" → l.shown = match l.deed with | none => V.none | some d => deedV d
  keys : ∀ d, l.deed = some d → PyData.strOk d.key = true ∧ d.key.length ≤ 1000
  whyLen : l.why.length ≤ 1000
noncomputable def deedsL (ls : List Ln) : List Deed := ls.flatMap fun l => l.deed.toList
noncomputable def firstBad : List Ln → Nat → Option (Nat × PySem.Str)
  | [], _ => none
  | l :: ls, k => if l.why ≠ S "" then some (k, l.why) else firstBad ls (k + 1)
noncomputable def textsOf (ls : List Ln) : List PySem.Str := ls.map (·.text)
noncomputable def turnsOf (ls : List Ln) (k : Nat) : List (V × Bool) := (ls.zipIdx k).map fun p => (V.tuple [.int ((p.2 : Int) + 1), .str p.1.text], true)
section
variable {n : Nat} {f : Bool}
theorem loop_read : ∀ (ls : List Ln) (k : Nat) (φ : Frm) (ds : List V), (∀ l ∈ ls, GoodLn l) → φ.lookup "ops" = some (.acc ds) → ds.length + ls.length ≤ 900 → k + ls.length ≤ 900 →
    (firstBad ls k = none ∧ ∃ φ', loopG (recN tbl consts (n+30)) (bndN ["number", "line"]) tbody φ (turnsOf ls k) = .ok (.next, φ') ∧ φ'.lookup "ops" = some (.acc (ds ++ (deedsL ls).map deedV))) ∨
    (∃ j w, firstBad ls k = some (j, w) ∧ loopG (recN tbl consts (n+30)) (bndN ["number", "line"]) tbody φ (turnsOf ls k) = .exc (lineTxt ((j : Int) + 1) w, false)) := by
  intro v0
  induction v0 with
  | nil => intro k φ ds _ h1 _ _; exact .inl ⟨rfl, φ, rfl, by rw [h1]; simp [deedsL]⟩
  | cons l ls ih =>
    intro k φ ds hg h1 hl hk
    simp only [List.length_cons] at hl hk
    have hu : turnsOf (l :: ls) k = (V.tuple [.int ((k : Int) + 1), .str l.text], true) :: turnsOf ls (k + 1) := rfl
    have hb : bndN ["number", "line"] (V.tuple [.int ((k : Int) + 1), .str l.text], true) φ = .ok (upd "line" (.val (.str l.text) true) (upd "number" (.val (.int ((k : Int) + 1)) true) φ)) := rfl
    have ht := (hg l (.head _)).turn n (upd "line" (.val (.str l.text) true) (upd "number" (.val (.int ((k : Int) + 1)) true) φ)) ds ((k : Int) + 1) true (by simp [upd_lookup, h1]) (by simp [upd_lookup]) (by omega) (by omega) (by simp [upd_lookup])
    rcases ht with ⟨w0, fl, φ₁, hfl, q1, q2⟩ | ⟨w1, q1⟩
    · have hstep : loopG (recN tbl consts (n+30)) (bndN ["number", "line"]) tbody φ (turnsOf (l :: ls) k) = loopG (recN tbl consts (n+30)) (bndN ["number", "line"]) tbody φ₁ (turnsOf ls (k + 1)) := by
        rw [hu, loopG_cons, hb, ok_bind, q1, ok_bind]
        rcases hfl with rfl | rfl <;> rfl
      have hlen : l.deed.toList.length ≤ 1 := by cases l.deed <;> simp
      rw [hstep]
      have e : firstBad (l :: ls) k = firstBad ls (k + 1) := if_neg fun z => z w0
      rw [e]
      rcases ih (k + 1) φ₁ _ (fun x hx => hg x (.tail _ hx)) q2 (by simp; omega) (by omega) with ⟨a1, φ', a2, a3⟩ | ⟨j, w, a1, a2⟩
      · refine .inl ⟨a1, φ', a2, ?_⟩
        rw [a3]
        simp [deedsL]
      · exact .inr ⟨j, w, a1, a2⟩
    · refine .inr ⟨k, l.why, if_pos w1, ?_⟩
      rw [hu, loopG_cons, hb, ok_bind, q1]; rfl
theorem nl : S "\n" = ⟨#[10]⟩ := by decide
theorem texts_sum : ∀ ls : List Ln, (∀ l ∈ ls, GoodLn l) → ((textsOf ls).map (·.length)).sum ≤ 5000 * ls.length := by
  intro v0
  induction v0 with
  | nil => intro _; simp [textsOf]
  | cons l ls ih =>
    intro hg
    have h1 := ih fun x hx => hg x (.tail _ hx)
    have h2 := (hg l (.head _)).len
    show l.text.length + ((textsOf ls).map (·.length)).sum ≤ _
    simp only [List.length_cons]; omega
theorem join_fits {ls : List Ln} (hg : ∀ l ∈ ls, GoodLn l) (h : ls.length ≤ 100) : ((textsOf ls).map (·.length)).sum + (textsOf ls).length * (S "\n").length ≤ 600000 := by
  have h2 := texts_sum ls hg
  have e2 : (S "\n").length = 1 := rfl
  have e3 : (textsOf ls).length = ls.length := List.length_map _
  rw [e2, e3]; omega
theorem join_len {ls : List Ln} (hg : ∀ l ∈ ls, GoodLn l) (h : ls.length ≤ 100) : (Txt.join (S "\n") (textsOf ls)).length ≤ 1000000 := by
  have e1 : Txt.join (S "\n") (textsOf ls) = PySem.Str.join (S "\n") (textsOf ls) := StrLaws.glued_eq_join _ _
  rw [e1]
  have := StrLaws.join_length_le (S "\n") (textsOf ls)
  have := join_fits hg h
  omega
theorem split_ok {ls : List Ln} (hg : ∀ l ∈ ls, GoodLn l) (h : ls ≠ []) : Txt.split (Txt.join (S "\n") (textsOf ls)) (S "\n") = textsOf ls := by
  rw [nl]
  refine split_join (by simpa [textsOf] using h) fun x hx => ?_
  obtain ⟨l, hl, rfl⟩ := List.mem_map.mp hx
  exact (hg l hl).plain
theorem t_read_trace : tbl "read_trace" = some (["text"], b_read_trace) := rfl
theorem zip_turns : ∀ (ls : List Ln) (k : Nat), (((textsOf ls).map V.str).zipIdx k).map (fun p => (V.tuple [.int ((p.2 : Int) + 1), p.1], true)) = turnsOf ls k := by
  intro v0
  induction v0 with
  | nil => intro _; exact rfl
  | cons c cs ih =>
    intro k
    show _ :: (((textsOf cs).map V.str).zipIdx (k + 1)).map _ = _ :: turnsOf cs (k + 1)
    rw [ih (k + 1)]
noncomputable def readR (ls : List Ln) : Res (V × Bool) := match firstBad ls 0 with
  | none => .ok (.list ((deedsL ls).map deedV), true)
  | some (j, w) => .exc (lineTxt ((j : Int) + 1) w, false)
theorem read_ok {ls : List Ln} (hg : ∀ l ∈ ls, GoodLn l) (h0 : ls ≠ []) (hl : ls.length ≤ 100) : (recN tbl consts (n + 32)).fn "read_trace" [(.str (Txt.join (S "\n") (textsOf ls)), f)] = readR ls := by
  have hlen := join_len hg hl
  have hsp := split_ok hg h0
  have e : b_read_trace = [.newAcc "ops", .forN ["number", "line"] (.enum (.meth .split1 (.var "text") [.const (.str (S "\n"))])) tbody, .ret (.var "ops")] := rfl
  have e2 : (textsOf ls).length ≤ 1000000 := by rw [show (textsOf ls).length = ls.length from List.length_map _]; omega
  have e3 : (S "\n").length ≠ 0 := by decide
  have e4 := zip_turns ls 0
  unfold readR
  rcases loop_read (n := n) ls 0 [("text", .val (.str (Txt.join (S "\n") (textsOf ls))) f), ("ops", .acc [])] [] hg rfl (by simp; omega) (by omega) with ⟨a1, φ', a2, a3⟩ | ⟨j, w, a1, a2⟩
  · rw [a1]
    simp [fn_succ, fnI, t_read_trace, e, blk_nil, blk_cons, next_then, ex_succ, exI, ev_succ, evI, ok_bind, upd, List.lookup_cons, iterI, evIt, evs, methV, lim, hlen, hsp, e2, e3, e4, a2, a3, freeze_lookup, frz, ret_then, onInt_ok, onStr_ok, onList_ok, onTup_ok, onO_ok, onTab_ok, onAcc_ok, arg0_ok, arg1_ok, addV, ltV]
  · rw [a1]
    simp [fn_succ, fnI, t_read_trace, e, blk_nil, blk_cons, next_then, ex_succ, exI, ev_succ, evI, ok_bind, exc_bind, upd, List.lookup_cons, iterI, evIt, evs, methV, lim, hlen, hsp, e2, e3, e4, a2, onInt_ok, onStr_ok, onList_ok, onTup_ok, onO_ok, onTab_ok, onAcc_ok, arg0_ok, arg1_ok, addV, ltV]
theorem empty_read : (recN tbl consts (n + 32)).fn "read_trace" [(.str (Txt.join (S "\n") []), f)] = .ok (.list [], true) := by kernel_rfl
theorem t_law_read : tbl "_law_read" = some (["lines"], b_law_read) := rfl
theorem comp_texts {ψ : Frm} : ∀ ls : List Ln, compI (recN tbl consts (n+6)) ψ (.index (.var "line") (.const (.int 0))) "line" none (ls.map fun l => (lnV l, true)) = .ok ((textsOf ls).map V.str) := by
  intro v0
  induction v0 with
  | nil => rfl
  | cons l ls ih =>
    rw [List.map_cons, compI_yes (e := .str l.text) (by simp [has_succ, blk_nil, blk_cons, next_then, ex_succ, exI, ts_succ, tsI, ev_succ, evI, ok_bind, exc_bind, bad_bind, upd_lookup, cmpV, inV, eqV, eqD, fzV, evs, fzs, truthV, atom_none, atom_bool, atom_int, atom_str, atom_tuple, atom_list, lenV, indexV, allI, anyI, binV, appI, iterI, evIt, condI, bnd1, bndN, loopG_nil, loopG_cons, next_after, cont_after, onInt_ok, onStr_ok, onList_ok, onTup_ok, onO_ok, onTab_ok, onAcc_ok, arg0_ok, arg1_ok, addV, ltV, atV]) (by simp [ev_succ, evI, upd_lookup, ok_bind, lnV, idx30, fzV, atom_str, onInt_ok, onStr_ok, onList_ok, onTup_ok, onO_ok, onTab_ok, onAcc_ok, arg0_ok, arg1_ok, addV, ltV]), ih]; rfl
noncomputable def gotV (ls : List Ln) : V := match firstBad ls 0 with
  | none => .tuple [.list ((deedsL ls).map deedV), .str (S "")]
  | some (j, w) => .tuple [.none, .str (lineTxt ((j : Int) + 1) w)]
theorem lns_flag (ls : List Ln) : ls.map ((fun d => (d, true)) ∘ lnV) = ls.map fun l => (lnV l, true) := rfl
theorem law_read_ok {ls : List Ln} (hg : ∀ l ∈ ls, GoodLn l) (hl : ls.length ≤ 100) : (recN tbl consts (n + 36)).fn "_law_read" [(.list (ls.map lnV), true)] = .ok (gotV ls, true) := by
  have q0 : (recN tbl consts (n + 33)).fn "read_trace" [(.str (Txt.join (S "\n") (textsOf ls)), true)] = readR ls := by
    cases ls with
    | nil => exact empty_read (n := n + 1)
    | cons l ls => exact read_ok (n := n + 1) hg (by simp) hl
  have hf := join_fits hg hl
  have hjl := join_len hg hl
  have hf' : ((textsOf ls).map (fun x => x.length)).sum + (textsOf ls).length * (S "\n").length ≤ 1000000 := by omega
  have e2 : ls.length ≤ 1000000 := by omega
  have hc := comp_texts (n := n + 26) (ψ := vals [("lines", .val (.list (ls.map lnV)) true)]) ls
  rw [show n + 36 = (n + 35) + 1 from rfl, fn_succ]
  unfold gotV
  unfold readR at q0
  cases hb : firstBad ls 0 with
  | none =>
    rw [hb] at q0
    simp [fnI, t_law_read, b_law_read, blk_nil, blk_cons, next_then, ex_succ, exI, ev_succ, evI, ok_bind, upd, List.lookup_cons, evs, lim, has_succ, t_read_trace, q0, fzV, freeze, ret_then, methV, iterI, evIt, It.simple, lns_flag, hc, strsOf_map, hf', e2, onInt_ok, onStr_ok, onList_ok, onTup_ok, onO_ok, onTab_ok, onAcc_ok, arg0_ok, arg1_ok, addV, ltV]
  | some p =>
    obtain ⟨j, w⟩ := p
    rw [hb] at q0
    simp [fnI, t_law_read, b_law_read, blk_nil, blk_cons, next_then, ex_succ, exI, ev_succ, evI, ok_bind, exc_bind, upd, List.lookup_cons, evs, lim, has_succ, t_read_trace, q0, fzV, freeze, ret_then, methV, iterI, evIt, It.simple, lns_flag, hc, strsOf_map, hf', e2, onInt_ok, onStr_ok, onList_ok, onTup_ok, onO_ok, onTab_ok, onAcc_ok, arg0_ok, arg1_ok, addV, ltV]
end
end L4
end Mine
end

section
set_option Elab.async false
set_option linter.unusedSimpArgs false
set_option maxRecDepth 100000
namespace Mine
open PySem
theorem idx_nat {ds : List V} {i : Nat} {d : V} (h : ds[i]? = some d) : indexV (.list ds) (.int (i : Int)) = .ok d := by
  show (if 0 ≤ (i : Int) then onO ds[(i : Int).toNat]? .ok else .bad) = _
  rw [if_pos (Int.natCast_nonneg i), Int.toNat_natCast, h]; rfl
namespace L4
open Mine
noncomputable def gapL : List PySem.Str := [S " ", S "\t", S "  ", S " \x0c"]
noncomputable def quietL : List PySem.Str := [S "", S " \t", S "\r", S "# get a", S "  #b 1", S "#"]
noncomputable def shapeL : List PySem.Str := [S "get", S "put", S "get a 1", S "put a", S "put a 1 2", S "pop a", S "GET a", S "set a 1"]
noncomputable def longS : PySem.Str := S "a name may have at most 200 characters"
noncomputable def shapeS : PySem.Str := S "expected 'get KEY' or 'put KEY VALUE'"
noncomputable def darkS : PySem.Str := S "a name may hold printable characters only: "
noncomputable def keyL : List (PySem.Str × PySem.Str) := [(S "a", S ""), (S "#c", S ""), (S "\u00e9", S ""), (Txt.mul (S "k") 200, S ""), (Txt.mul (S "k") 201, longS), (Txt.mul (S "k") 200 ++ S "\x07", longS), (S "b\x07l", darkS ++ S "'b\\x07l'"), (S "\u200b", darkS ++ S "'\\u200b'")]
noncomputable def numL : List (PySem.Str × Int × PySem.Str) := [(S "1", 1, S ""), (S "2", 2, S ""), (Txt.mul (S "0") 30 ++ S "3", 3, S ""), (S "-0", 0, S ""), (S "1000000000000000000", 10 ^ 18, S ""), (S "1000000000000000001", 10 ^ 18 + 1, S ""), (S "-1000000000000000000", -10 ^ 18, S ""), (S "-1000000000000000001", -10 ^ 18 - 1, S ""), (Txt.mul (S "9") 4400, 10 ^ 19, S ""), (S "--5", 0, S "'--5'"), (S "\u0663", 0, S "'\\u0663'"), (Txt.mul (S "x") 50, 0, S "'" ++ Txt.mul (S "x") 40 ++ S "'")]
noncomputable def keyT (p : PySem.Str × PySem.Str) : V := .tuple [.str p.1, .str p.2]
noncomputable def numT (p : PySem.Str × Int × PySem.Str) : V := .tuple [.str p.1, .int p.2.1, .str p.2.2]
section
variable {n : Nat}
theorem gaps_ok : (recN tbl consts (n + 6)).fn "_law_gaps" [] = .ok (.list (gapL.map .str), true) := by kernel_rfl
theorem quiet_ok : (recN tbl consts (n + 6)).fn "_law_quiet" [] = .ok (.list (quietL.map .str), true) := by kernel_rfl
theorem shapes_ok : (recN tbl consts (n + 6)).fn "_law_shapes" [] = .ok (.list (shapeL.map .str), true) := by kernel_rfl
theorem keys_ok : (recN tbl consts (n + 12)).fn "_law_keys" [] = .ok (.list (keyL.map keyT), true) := by kernel_rfl
theorem nums_ok : (recN tbl consts (n + 12)).fn "_law_numbers" [] = .ok (.list (numL.map numT), true) := by kernel_rfl
end
end L4
end Mine
end

section
set_option Elab.async false
set_option linter.unusedSimpArgs false
set_option maxRecDepth 100000
namespace Mine
open PySem
theorem fin3 {P : Fin 3 → Prop} (a : P 0) (b : P 1) (c : P 2) : ∀ i, P i := by
  intro i
  match i with
  | 0 => exact a
  | 1 => exact b
  | 2 => exact c
namespace L4
open Mine
abbrev bigS : PySem.Str := S " and 1000000000000000000"
noncomputable def whyNum (v : Int) (sh : PySem.Str) (lo : Int) : PySem.Str := if sh = S "" then (if v < lo ∨ v > 1000000000000000000 then S "a number must lie between " ++ PySem.Str.ofString (toString lo) ++ bigS else S "") else S "not a whole number: " ++ sh
theorem t_number_why : tbl "_law_number_why" = some (["value", "shown", "lowest"], b_law_number_why) := rfl
section
variable {n : Nat} {v lo : Int} {sh : PySem.Str} {f1 f2 f3 : Bool}
theorem why_ok (hsh : sh.length ≤ 1000) (hlo : lo.natAbs < 2 ^ 100) (hll : (PySem.Str.ofString (toString lo)).length ≤ 1000) : (recN tbl consts (n + 12)).fn "_law_number_why" [(.int v, f1), (.str sh, f2), (.int lo, f3)] = .ok (.str (whyNum v sh lo), true) := by
  have e1 : (S "not a whole number: ").length = 20 := rfl
  have e2 : (S "a number must lie between ").length = 26 := rfl
  have e3 : bigS.length = 24 := rfl
  have hlo' : lo.natAbs < 1267650600228229401496703205376 := hlo
  rw [show n + 12 = (n + 11) + 1 from rfl, fn_succ]
  unfold whyNum
  by_cases c1 : sh = S ""
  · rw [if_pos c1]
    subst c1
    have g1 : (S "a number must lie between ").length + (PySem.Str.ofString lo.repr).length ≤ 1000000 := by have : lo.repr = toString lo := rfl; rw [this]; omega
    have g2 : (S "a number must lie between ").length + (PySem.Str.ofString lo.repr).length + bigS.length ≤ 1000000 := by have : lo.repr = toString lo := rfl; rw [this]; omega
    have e0 : (PySem.Str.ofString "" == PySem.Str.ofString "") = true := by decide
    by_cases c2 : v < lo
    · rw [if_pos (.inl c2)]
      simp [fnI, t_number_why, b_law_number_why, has_succ, blk_nil, blk_cons, next_then, ex_succ, exI, ts_succ, tsI, ev_succ, evI, ok_bind, exc_bind, bad_bind, upd_lookup, cmpV, inV, eqV, eqD, fzV, evs, fzs, truthV, atom_none, atom_bool, atom_int, atom_str, atom_tuple, atom_list, lenV, indexV, allI, anyI, binV, appI, iterI, evIt, condI, bnd1, bndN, loopG_nil, loopG_cons, next_after, cont_after, onInt_ok, onStr_ok, onList_ok, onTup_ok, onO_ok, onTab_ok, onAcc_ok, arg0_ok, arg1_ok, addV, ltV, atV, upd, List.lookup_cons, freeze, ret_then, lim, len_app, e0, c2, hlo', g1, g2]
    · by_cases c3 : v > 1000000000000000000
      · rw [if_pos (.inr c3)]
        simp [fnI, t_number_why, b_law_number_why, has_succ, blk_nil, blk_cons, next_then, ex_succ, exI, ts_succ, tsI, ev_succ, evI, ok_bind, exc_bind, bad_bind, upd_lookup, cmpV, inV, eqV, eqD, fzV, evs, fzs, truthV, atom_none, atom_bool, atom_int, atom_str, atom_tuple, atom_list, lenV, indexV, allI, anyI, binV, appI, iterI, evIt, condI, bnd1, bndN, loopG_nil, loopG_cons, next_after, cont_after, onInt_ok, onStr_ok, onList_ok, onTup_ok, onO_ok, onTab_ok, onAcc_ok, arg0_ok, arg1_ok, addV, ltV, atV, upd, List.lookup_cons, freeze, ret_then, lim, len_app, e0, c2, c3, hlo', g1, g2]
      · rw [if_neg (fun z => z.elim c2 c3)]
        simp [fnI, t_number_why, b_law_number_why, has_succ, blk_nil, blk_cons, next_then, ex_succ, exI, ts_succ, tsI, ev_succ, evI, ok_bind, exc_bind, bad_bind, upd_lookup, cmpV, inV, eqV, eqD, fzV, evs, fzs, truthV, atom_none, atom_bool, atom_int, atom_str, atom_tuple, atom_list, lenV, indexV, allI, anyI, binV, appI, iterI, evIt, condI, bnd1, bndN, loopG_nil, loopG_cons, next_after, cont_after, onInt_ok, onStr_ok, onList_ok, onTup_ok, onO_ok, onTab_ok, onAcc_ok, arg0_ok, arg1_ok, addV, ltV, atV, upd, List.lookup_cons, freeze, ret_then, lim, len_app, e0, c2, c3, hlo', g1, g2]
  · rw [if_neg c1]
    have c1' : (sh == PySem.Str.ofString "") = false := beq_eq_false_iff_ne.mpr c1
    have g1 : (S "not a whole number: ").length + sh.length ≤ 1000000 := by omega
    simp [fnI, t_number_why, b_law_number_why, has_succ, blk_nil, blk_cons, next_then, ex_succ, exI, ts_succ, tsI, ev_succ, evI, ok_bind, exc_bind, bad_bind, upd_lookup, cmpV, inV, eqV, eqD, fzV, evs, fzs, truthV, atom_none, atom_bool, atom_int, atom_str, atom_tuple, atom_list, lenV, indexV, allI, anyI, binV, appI, iterI, evIt, condI, bnd1, bndN, loopG_nil, loopG_cons, next_after, cont_after, onInt_ok, onStr_ok, onList_ok, onTup_ok, onO_ok, onTab_ok, onAcc_ok, arg0_ok, arg1_ok, addV, ltV, atV, upd, List.lookup_cons, freeze, ret_then, lim, len_app, c1', g1]
end
end L4
end Mine
end

section
set_option Elab.async false
set_option linter.unusedSimpArgs false
set_option maxRecDepth 100000
namespace Mine
open PySem
theorem fold_rep {c : Nat} : ∀ (m : Nat) (a : Array Nat), (List.replicate m #[c]).foldl (· ++ ·) a = a ++ (List.replicate m c).toArray := by
  intro m
  induction m with
  | zero => intro a; simp
  | succ m ih => intro a; rw [List.replicate_succ, List.foldl_cons, ih, List.replicate_succ]; apply Array.toList_inj.mp; simp
theorem mul_rep {c m : Nat} (hm : 2 ≤ m) : (Txt.mul ⟨#[c]⟩ (m : Int)).cps = (List.replicate m c).toArray := by
  have e1 : ¬ ((m : Int) < 1) := by omega
  have e2 : ¬ ((m : Int) = 1) := by omega
  have e3 : ¬ ((⟨#[c]⟩ : PySem.Str).length = 0) := by show ¬ (1 = 0); omega
  unfold Txt.mul
  rw [if_neg e1, if_neg (by simp [e2, e3]), Int.toNat_natCast]
  exact (fold_rep m #[]).trans (by simp)
theorem rep_all {α : Type} {f : α → Bool} {c : α} (h : f c = true) : ∀ m : Nat, (List.replicate m c).all f = true := by
  intro m
  induction m with
  | zero => rfl
  | succ m ih => rw [List.replicate_succ, List.all_cons, h, ih]; rfl
namespace L4
open Mine
noncomputable def big9 : PySem.Str := Txt.mul (S "9") 4400
theorem big9_cps : big9.cps = (List.replicate 4400 57).toArray := mul_rep (c := 57) (m := 4400) (by omega)
theorem big9_list : big9.cps.toList = List.replicate 4400 57 := by rw [big9_cps]
theorem big9_len : big9.length = 4400 := by show big9.cps.size = _; rw [big9_cps, List.size_toArray]; exact List.length_replicate
theorem big9_sub : PySem.Builtin.Str.subAt big9 (S "-") 0 = false := by
  unfold PySem.Builtin.Str.subAt
  have e : (S "-").length = 1 := rfl
  have e2 : (S "-").cps = #[45] := rfl
  rw [big9_cps, e, e2]
  simp [List.extract_toArray]
theorem big9_rp : Txt.removeprefix big9 (S "-") = big9 := by
  unfold Txt.removeprefix
  rw [big9_sub]; rfl
theorem big9_ascii : Txt.isascii big9 = true := by
  unfold Txt.isascii
  rw [← Array.all_toList, big9_list]; exact rep_all rfl _
theorem big9_digit : Txt.isdigit big9 = true := by
  unfold Txt.isdigit
  have e : Unicode.isDigit 57 = true := by decide +kernel
  rw [big9_len, ← Array.all_toList, big9_list, rep_all e]; rfl
theorem big9_ls : Txt.lstripChars big9 (S "0") = big9 := by
  have e : (S "0").cps.contains 57 = false := by decide +kernel
  have e2 : PySem.stripLo (S "0").cps.contains true big9 = 0 := by
    unfold PySem.stripLo
    rw [if_pos rfl, big9_list, List.replicate_succ, List.takeWhile_cons, e]; rfl
  unfold Txt.lstripChars Txt.stripBy
  rw [if_pos]
  unfold PySem.stripSame
  rw [e2]
  unfold PySem.stripHi
  simp
end L4
end Mine
end

section
set_option Elab.async false
set_option linter.unusedSimpArgs false
set_option maxRecDepth 100000
namespace Mine
open PySem
theorem all_cons {α : Type} {P : α → Prop} {a : α} {l : List α} (h : P a) (t : ∀ x ∈ l, P x) : ∀ x ∈ a :: l, P x := fun x hx => by
  rcases List.mem_cons.mp hx with rfl | hx
  · exact h
  · exact t x hx
theorem all_nil {α : Type} {P : α → Prop} : ∀ x ∈ ([] : List α), P x := fun _ h => nomatch h
namespace L4
open Mine
theorem t_parse_number : tbl "parse_number" = some (["text", "lowest"], b_parse_number) := rfl
theorem t_parse_count : tbl "parse_count" = some (["text"], b_parse_count) := rfl
noncomputable def resOf (u : V) (w : PySem.Str) : Res (V × Bool) := if w = S "" then .ok (u, true) else .exc (w, true)
section
variable {n : Nat} {lo : Int} {f1 f2 : Bool}
theorem long_num {x : PySem.Str} (h1 : Txt.removeprefix x (S "-") = x) (h2 : Txt.isascii x = true) (h3 : Txt.isdigit x = true) (h4 : Txt.lstripChars x (S "0") = x) (h5 : x.length = 4400) (hlo : lo.natAbs < 2 ^ 100) (hll : (PySem.Str.ofString lo.repr).length ≤ 1000) : (recN tbl consts (n + 20)).fn "parse_number" [(.str x, f1), (.int lo, f2)] = .exc (S "a number must lie between " ++ PySem.Str.ofString (toString lo) ++ bigS, true) := by
  have hlo' : lo.natAbs < 1267650600228229401496703205376 := hlo
  have e1 : (S "a number must lie between ").length = 26 := rfl
  have e3 : (S " and ").length = 5 := rfl
  have e4 : (S "1000000000000000000").length = 19 := rfl
  have e5 : consts "MAX_NUMBER" = some (.int 1000000000000000000) := rfl
  have e6 : PySem.Str.ofString (Int.repr 1000000000000000000) = S "1000000000000000000" := by decide +kernel
  have e7 : bigS = S " and " ++ S "1000000000000000000" := by decide +kernel
  have e8 : PySem.Str.empty.length = 0 := rfl
  have g1 : 26 + (PySem.Str.ofString lo.repr).length ≤ 1000000 := by omega
  have g2 : 26 + (PySem.Str.ofString lo.repr).length ≤ 999995 := by omega
  have g3 : 26 + ((PySem.Str.ofString lo.repr).length + 5) ≤ 999981 := by omega
  rw [show n + 20 = (n + 19) + 1 from rfl, fn_succ, e7]
  simp [fnI, t_parse_number, b_parse_number, has_succ, blk_nil, blk_cons, next_then, ex_succ, exI, ts_succ, tsI, ev_succ, evI, ok_bind, exc_bind, bad_bind, upd_lookup, cmpV, inV, eqV, eqD, fzV, evs, fzs, truthV, atom_none, atom_bool, atom_int, atom_str, atom_tuple, atom_list, lenV, indexV, allI, anyI, binV, appI, iterI, evIt, condI, bnd1, bndN, loopG_nil, loopG_cons, next_after, cont_after, onInt_ok, onStr_ok, onList_ok, onTup_ok, onO_ok, onTab_ok, onAcc_ok, arg0_ok, arg1_ok, addV, ltV, atV, upd, List.lookup_cons, methV, h1, h2, h3, h4, h5, raiseI, partsI, partI, hlo', lim, len_app, e5, e6, e1, e3, e4, e8, g1, g2, g3, nil_app, app_ass]
theorem signed_exc {x : PySem.Str} {m : Msg} (h : (recN tbl consts (n + 24)).fn "parse_number" [(.str x, true), (.int (-1000000000000000000), true)] = .exc m) : (recN tbl consts (n + 27)).fn "parse_signed" [(.str x, true)] = .exc m := by
  have e5 : consts "MAX_NUMBER" = some (.int 1000000000000000000) := rfl
  rw [show n + 27 = (n + 26) + 1 from rfl, fn_succ]
  simp [fnI, t_parse_signed, t_parse_number, b_parse_signed, has_succ, blk_nil, blk_cons, next_then, ex_succ, exI, ts_succ, tsI, ev_succ, evI, ok_bind, exc_bind, bad_bind, upd_lookup, cmpV, inV, eqV, eqD, fzV, evs, fzs, truthV, atom_none, atom_bool, atom_int, atom_str, atom_tuple, atom_list, lenV, indexV, allI, anyI, binV, appI, iterI, evIt, condI, bnd1, bndN, loopG_nil, loopG_cons, next_after, cont_after, onInt_ok, onStr_ok, onList_ok, onTup_ok, onO_ok, onTab_ok, onAcc_ok, arg0_ok, arg1_ok, addV, ltV, atV, List.lookup_cons, e5, h, freeze]
theorem count_exc {x : PySem.Str} {m : Msg} (h : (recN tbl consts (n + 24)).fn "parse_number" [(.str x, true), (.int 1, true)] = .exc m) : (recN tbl consts (n + 27)).fn "parse_count" [(.str x, true)] = .exc m := by
  rw [show n + 27 = (n + 26) + 1 from rfl, fn_succ]
  simp [fnI, t_parse_count, t_parse_number, b_parse_count, has_succ, blk_nil, blk_cons, next_then, ex_succ, exI, ts_succ, tsI, ev_succ, evI, ok_bind, exc_bind, bad_bind, upd_lookup, cmpV, inV, eqV, eqD, fzV, evs, fzs, truthV, atom_none, atom_bool, atom_int, atom_str, atom_tuple, atom_list, lenV, indexV, allI, anyI, binV, appI, iterI, evIt, condI, bnd1, bndN, loopG_nil, loopG_cons, next_after, cont_after, onInt_ok, onStr_ok, onList_ok, onTup_ok, onO_ok, onTab_ok, onAcc_ok, arg0_ok, arg1_ok, addV, ltV, atV, List.lookup_cons, h, freeze]
theorem big9_signed : (recN tbl consts (n + 27)).fn "parse_signed" [(.str big9, true)] = resOf (.int (10 ^ 19)) (whyNum (10 ^ 19) (S "") (-10 ^ 18)) := by
  have e : resOf (.int (10 ^ 19)) (whyNum (10 ^ 19) (S "") (-10 ^ 18)) = .exc (S "a number must lie between " ++ PySem.Str.ofString (toString (-1000000000000000000 : Int)) ++ bigS, true) := by kernel_rfl
  rw [e]
  exact signed_exc (long_num (n := n + 4) (lo := -1000000000000000000) (f1 := true) (f2 := true) big9_rp big9_ascii big9_digit big9_ls big9_len (by decide) (by decide +kernel))
theorem big9_count : (recN tbl consts (n + 27)).fn "parse_count" [(.str big9, true)] = resOf (.int (10 ^ 19)) (whyNum (10 ^ 19) (S "") 1) := by
  have e : resOf (.int (10 ^ 19)) (whyNum (10 ^ 19) (S "") 1) = .exc (S "a number must lie between " ++ PySem.Str.ofString (toString (1 : Int)) ++ bigS, true) := by kernel_rfl
  rw [e]
  exact count_exc (long_num (n := n + 4) (lo := 1) (f1 := true) (f2 := true) big9_rp big9_ascii big9_digit big9_ls big9_len (by decide) (by decide +kernel))
theorem num_signed : ∀ q ∈ numL, (recN tbl consts (n + 27)).fn "parse_signed" [(.str q.1, true)] = resOf (.int q.2.1) (whyNum q.2.1 q.2.2 (-10 ^ 18)) :=
  all_cons (by kernel_rfl) <| all_cons (by kernel_rfl) <| all_cons (by kernel_rfl) <| all_cons (by kernel_rfl) <| all_cons (by kernel_rfl) <| all_cons (by kernel_rfl) <| all_cons (by kernel_rfl) <| all_cons (by kernel_rfl) <| all_cons big9_signed <| all_cons (by kernel_rfl) <| all_cons (by kernel_rfl) <| all_cons (by kernel_rfl) all_nil
theorem num_count : ∀ q ∈ numL, (recN tbl consts (n + 27)).fn "parse_count" [(.str q.1, true)] = resOf (.int q.2.1) (whyNum q.2.1 q.2.2 1) :=
  all_cons (by kernel_rfl) <| all_cons (by kernel_rfl) <| all_cons (by kernel_rfl) <| all_cons (by kernel_rfl) <| all_cons (by kernel_rfl) <| all_cons (by kernel_rfl) <| all_cons (by kernel_rfl) <| all_cons (by kernel_rfl) <| all_cons big9_count <| all_cons (by kernel_rfl) <| all_cons (by kernel_rfl) <| all_cons (by kernel_rfl) all_nil
theorem key_name : ∀ q ∈ keyL, (recN tbl consts (n + 27)).fn "check_name" [(.str q.1, true)] = resOf (.str q.1) q.2 :=
  all_cons (by kernel_rfl) <| all_cons (by kernel_rfl) <| all_cons (by kernel_rfl) <| all_cons (by kernel_rfl) <| all_cons (by kernel_rfl) <| all_cons (by kernel_rfl) <| all_cons (by kernel_rfl) <| all_cons (by kernel_rfl) all_nil
end
end L4
end Mine
end

section
set_option Elab.async false
set_option linter.unusedSimpArgs false
set_option maxRecDepth 100000
namespace Mine
open PySem
noncomputable def noNl (y : PySem.Str) : Bool := y.cps.toList.all (· != 10)
theorem noNl_out {y : PySem.Str} (h : noNl y = true) : 10 ∉ y.cps.toList := fun z => by
  have := List.all_eq_true.mp h 10 z
  simp at this
theorem noNl_app {a b : PySem.Str} (ha : noNl a = true) (hb : noNl b = true) : noNl (a ++ b) = true := by
  unfold noNl at *
  rw [app_list, List.all_append, ha, hb]; rfl
theorem solid_noNl {y : PySem.Str} (h : solid y = true) : noNl y = true := by
  unfold noNl
  refine List.all_eq_true.mpr fun c hc => ?_
  have := List.all_eq_true.mp h c hc
  have e : Unicode.isSpace 10 = true := by decide +kernel
  by_cases q : c = 10
  · subst q; rw [e] at this; cases this
  · simp [q]
namespace L4
open Mine
noncomputable def getL (t k w : PySem.Str) : Ln := ⟨t, deedV ⟨true, k, 0⟩, some ⟨true, k, 0⟩, w⟩
noncomputable def putL (t k : PySem.Str) (v : Int) (w : PySem.Str) : Ln := ⟨t, deedV ⟨false, k, v⟩, some ⟨false, k, v⟩, w⟩
noncomputable def offL (t w : PySem.Str) : Ln := ⟨t, .none, none, w⟩
section
variable {n : Nat} {φ : Frm} {ds : List V} {i : Int} {f : Bool} {x : PySem.Str}
theorem body_put_exc1 {k t m : PySem.Str} (h1 : φ.lookup "ops" = some (.acc ds)) (h2 : φ.lookup "number" = some (.val (.int i) f)) (h3 : φ.lookup "line" = some (.val (.str x) true)) (hx : x.length ≤ 1000000) (hi : i.natAbs < 2 ^ 60) (hm : m.length ≤ 100000) (hw : Txt.words x = [PySem.Str.ofString "put", k, t])
    (hc : (recN tbl consts (n + 27)).fn "check_name" [(.str k, true)] = .exc (m, true)) :
    blk (recN tbl consts (n + 30)) φ tbody = .exc (lineTxt i m, false) := by
  have hi' : i.natAbs < 1152921504606846976 := hi
  simp [has_succ, blk_nil, blk_cons, next_then, ex_succ, exI, ts_succ, tsI, ev_succ, evI, ok_bind, exc_bind, bad_bind, upd_lookup, cmpV, inV, eqV, eqD, fzV, evs, fzs, truthV, atom_none, atom_bool, atom_int, atom_str, atom_tuple, atom_list, lenV, indexV, allI, anyI, binV, appI, iterI, evIt, condI, bnd1, bndN, loopG_nil, loopG_cons, next_after, cont_after, onInt_ok, onStr_ok, onList_ok, onTup_ok, onO_ok, onTab_ok, onAcc_ok, arg0_ok, arg1_ok, addV, ltV, atV, tbody, h1, h2, h3, hx, hw, methV, lim, put_hash, tryLineI, t_check_name, hc, hi', hm, lineTxt, get_ne]
end
section
variable {t k u w wk wn : PySem.Str} {v : Int}
theorem resOf_ok {d : V} (h : w = S "") : resOf d w = .ok (d, true) := if_pos h
theorem resOf_exc {d : V} (h : w ≠ S "") : resOf d w = .exc (w, true) := if_neg h
theorem good_get (hx : t.length ≤ 5000) (hp : noNl t = true) (hw : Txt.words t = [S "get", k]) (hc : ∀ n, (recN tbl consts (n + 27)).fn "check_name" [(.str k, true)] = resOf (.str k) w) (hk : PyData.strOk k = true ∧ k.length ≤ 1000) (hl : w.length ≤ 1000) : GoodLn (getL t k w) where
  len := hx
  plain := noNl_out hp
  turn := fun n φ ds i f h1 h2 hd hi h3 => by
    by_cases c : w = S ""
    · exact .inl ⟨c, _, _, .inl rfl, body_get h1 h3 (Nat.le_trans hx (by omega)) hd hw ((hc n).trans (resOf_ok c)), by rw [upd_lookup, if_pos rfl]; rfl⟩
    · exact .inr ⟨c, body_get_exc h1 h2 h3 (Nat.le_trans hx (by omega)) hi (Nat.le_trans hl (by omega)) hw ((hc n).trans (resOf_exc c))⟩
  said := fun _ => rfl
  keys := fun d e => by cases e; exact hk
  whyLen := hl
theorem good_put (hx : t.length ≤ 5000) (hp : noNl t = true) (hw : Txt.words t = [S "put", k, u]) (hc : ∀ n, (recN tbl consts (n + 27)).fn "check_name" [(.str k, true)] = resOf (.str k) wk) (hs : ∀ n, (recN tbl consts (n + 27)).fn "parse_signed" [(.str u, true)] = resOf (.int v) wn)
    (he : w = if wk = S "" then wn else wk) (hk : PyData.strOk k = true ∧ k.length ≤ 1000) (hl : w.length ≤ 1000) : GoodLn (putL t k v w) where
  len := hx
  plain := noNl_out hp
  turn := fun n φ ds i f h1 h2 hd hi h3 => by
    by_cases c1 : wk = S ""
    · rw [if_pos c1] at he
      subst he
      by_cases c : w = S ""
      · exact .inl ⟨c, _, _, .inl rfl, body_put h1 h3 (Nat.le_trans hx (by omega)) hd hw ((hc n).trans (resOf_ok c1)) ((hs n).trans (resOf_ok c)), by rw [upd_lookup, if_pos rfl]; rfl⟩
      · exact .inr ⟨c, body_put_exc h1 h2 h3 (Nat.le_trans hx (by omega)) hi (Nat.le_trans hl (by omega)) hw ((hc n).trans (resOf_ok c1)) ((hs n).trans (resOf_exc c))⟩
    · rw [if_neg c1] at he
      subst he
      exact .inr ⟨c1, body_put_exc1 h1 h2 h3 (Nat.le_trans hx (by omega)) hi (Nat.le_trans hl (by omega)) hw ((hc n).trans (resOf_exc c1))⟩
  said := fun _ => rfl
  keys := fun d e => by cases e; exact hk
  whyLen := hl
/-- a line that says nothing -/
noncomputable def mute (ws : List PySem.Str) : Bool := match ws with
  | [] => true
  | w :: _ => Txt.startswith w (S "#")
theorem good_mute (hx : t.length ≤ 5000) (hp : noNl t = true) (hw : mute (Txt.words t) = true) : GoodLn (offL t (S "")) where
  len := hx
  plain := noNl_out hp
  turn := fun n φ ds i f h1 h2 hd hi h3 => by
    refine .inl ⟨rfl, .cont, ?_⟩
    cases q : Txt.words t with
    | nil => exact ⟨_, .inr rfl, body_nil h3 (Nat.le_trans hx (by omega)) q, by rw [upd_lookup, if_neg (by decide)]; simpa [offL] using h1⟩
    | cons w r =>
      rw [q] at hw
      exact ⟨_, .inr rfl, body_hash h3 (Nat.le_trans hx (by omega)) q hw, by rw [upd_lookup, if_neg (by decide)]; simpa [offL] using h1⟩
  said := fun _ => rfl
  keys := fun d e => nomatch e
  whyLen := by show (S "").length ≤ _; decide
/-- a line of no known shape -/
noncomputable def odd (ws : List PySem.Str) : Bool := match ws with
  | [] => false
  | w :: r => !Txt.startswith w (S "#") && (w != S "get" || r.length != 1) && (w != S "put" || r.length != 2)
theorem good_odd (hx : t.length ≤ 5000) (hp : noNl t = true) (hw : odd (Txt.words t) = true) : GoodLn (offL t shapeS) where
  len := hx
  plain := noNl_out hp
  turn := fun n φ ds i f h1 h2 hd hi h3 => by
    refine .inr ⟨by show shapeS ≠ S ""; decide, ?_⟩
    cases q : Txt.words t with
    | nil => rw [q] at hw; cases hw
    | cons w r =>
      rw [q] at hw
      simp only [odd, Bool.and_eq_true, Bool.not_eq_true', Bool.or_eq_true, bne_iff_ne] at hw
      exact body_other h2 h3 (Nat.le_trans hx (by omega)) hi q hw.1.1 hw.1.2 hw.2
  said := fun h => absurd h (by show shapeS ≠ S ""; decide)
  keys := fun d e => nomatch e
  whyLen := by show shapeS.length ≤ _; decide
end
end L4
end Mine
end

section
set_option Elab.async false
set_option linter.unusedSimpArgs false
set_option maxRecDepth 100000
namespace Mine
open PySem
namespace L4
open Mine
noncomputable def keyFine (p : PySem.Str × PySem.Str) : Bool := solid p.1 && p.1.length != 0 && decide (p.1.length ≤ 201) && PyData.strOk p.1 && decide (p.2.length ≤ 1000)
noncomputable def numFine (q : PySem.Str × Int × PySem.Str) : Bool := solid q.1 && q.1.length != 0 && decide (q.1.length ≤ 4400) && decide (q.2.2.length ≤ 1000) && decide ((whyNum q.2.1 q.2.2 (-10 ^ 18)).length ≤ 1000) && decide ((whyNum q.2.1 q.2.2 1).length ≤ 1000)
theorem key_fine : ∀ p ∈ keyL, keyFine p = true :=
  all_cons (by kernel_rfl) <| all_cons (by kernel_rfl) <| all_cons (by kernel_rfl) <| all_cons (by kernel_rfl) <| all_cons (by kernel_rfl) <| all_cons (by kernel_rfl) <| all_cons (by kernel_rfl) <| all_cons (by kernel_rfl) all_nil
theorem big9_solid : solid big9 = true := by
  have e : Unicode.isSpace 57 = false := by decide +kernel
  unfold solid
  rw [big9_list]; exact rep_all (by rw [e]; rfl) _
theorem big9_fine : numFine (big9, 10 ^ 19, S "") = true := by
  have e1 : decide ((whyNum (10 ^ 19) (S "") (-10 ^ 18)).length ≤ 1000) = true := by kernel_rfl
  have e2 : decide ((whyNum (10 ^ 19) (S "") 1).length ≤ 1000) = true := by kernel_rfl
  have e3 : decide ((S "").length ≤ 1000) = true := by kernel_rfl
  unfold numFine
  dsimp only
  rw [big9_solid, big9_len, e1, e2, e3]; rfl
theorem num_fine : ∀ q ∈ numL, numFine q = true :=
  all_cons (by kernel_rfl) <| all_cons (by kernel_rfl) <| all_cons (by kernel_rfl) <| all_cons (by kernel_rfl) <| all_cons (by kernel_rfl) <| all_cons (by kernel_rfl) <| all_cons (by kernel_rfl) <| all_cons (by kernel_rfl) <| all_cons big9_fine <| all_cons (by kernel_rfl) <| all_cons (by kernel_rfl) <| all_cons (by kernel_rfl) all_nil
section
variable {p : PySem.Str × PySem.Str} {q : PySem.Str × Int × PySem.Str}
theorem wild_get (h : p ∈ keyL) : GoodLn (getL (S "get " ++ p.1) p.1 p.2) := by
  have hf := key_fine p h
  simp only [keyFine, Bool.and_eq_true, bne_iff_ne, decide_eq_true_eq] at hf
  obtain ⟨⟨⟨⟨h1, h2⟩, h3⟩, h4⟩, h5⟩ := hf
  have e : S "get " = S "get" ++ S " " := by decide +kernel
  have e1 : (S "get ").length = 4 := rfl
  refine good_get (by rw [len_app, e1]; omega) (noNl_app (by decide +kernel) (solid_noNl h1)) ?_ (fun n => key_name p h) ⟨h4, by omega⟩ h5
  rw [e]
  exact words_two (by decide +kernel) (by decide) (by decide +kernel) (by decide) h1 h2
noncomputable def wildWhy (p : PySem.Str × PySem.Str) (q : PySem.Str × Int × PySem.Str) : PySem.Str := if p.2 = S "" then whyNum q.2.1 q.2.2 (-10 ^ 18) else p.2
theorem wild_put (h : p ∈ keyL) (g : q ∈ numL) : GoodLn (putL (S "put\t" ++ p.1 ++ S "  " ++ q.1) p.1 q.2.1 (wildWhy p q)) := by
  have hf := key_fine p h
  simp only [keyFine, Bool.and_eq_true, bne_iff_ne, decide_eq_true_eq] at hf
  obtain ⟨⟨⟨⟨h1, h2⟩, h3⟩, h4⟩, h5⟩ := hf
  have gf := num_fine q g
  simp only [numFine, Bool.and_eq_true, bne_iff_ne, decide_eq_true_eq] at gf
  obtain ⟨⟨⟨⟨⟨g1, g2⟩, g3⟩, _⟩, g4⟩, _⟩ := gf
  have e : S "put\t" = S "put" ++ S "\t" := by decide +kernel
  have e1 : (S "put\t").length = 4 := rfl
  have e2 : (S "  ").length = 2 := rfl
  refine good_put (by rw [len_app, len_app, len_app, e1, e2]; omega) (noNl_app (noNl_app (noNl_app (by decide +kernel) (solid_noNl h1)) (by decide +kernel)) (solid_noNl g1)) ?_ (fun n => key_name p h) (fun n => num_signed q g) rfl ⟨h4, by omega⟩ (by unfold wildWhy; split <;> assumption)
  rw [e]
  exact words_three (by decide +kernel) (by decide) (by decide +kernel) (by decide) h1 h2 (by decide +kernel) (by decide) g1 g2
theorem wild_shape : ∀ t ∈ shapeL, GoodLn (offL t shapeS) := by
  have h : ∀ t ∈ shapeL, t.length ≤ 5000 ∧ noNl t = true ∧ odd (Txt.words t) = true := by decide +kernel
  exact fun t ht => good_odd (h t ht).1 (h t ht).2.1 (h t ht).2.2
theorem calm_quiet : ∀ t ∈ quietL, GoodLn (offL t (S "")) := by
  have h : ∀ t ∈ quietL, t.length ≤ 5000 ∧ noNl t = true ∧ mute (Txt.words t) = true := by decide +kernel
  exact fun t ht => good_mute (h t ht).1 (h t ht).2.1 (h t ht).2.2
end
end L4
end Mine
end

section
set_option Elab.async false
set_option linter.unusedSimpArgs false
set_option maxRecDepth 100000
namespace Mine
open PySem
theorem updAll_nil {f : Bool} {φ : Frm} : updAll f [] [] φ = .ok φ := rfl
theorem updAll_cons {f : Bool} {x : String} {xs : List String} {d : V} {ds : List V} {φ : Frm} : updAll f (x :: xs) (d :: ds) φ = if f || d.atom then updAll f xs ds (upd x (.val d true) φ) else .bad := rfl
namespace L4
open Mine
theorem t_wild : tbl "_law_wild" = some (["kind", "place", "number"], b_law_wild) := rfl
theorem t_keys : tbl "_law_keys" = some ([], b_law_keys) := rfl
theorem t_numbers : tbl "_law_numbers" = some ([], b_law_numbers) := rfl
theorem t_shapes : tbl "_law_shapes" = some ([], b_law_shapes) := rfl
section
variable {n i j : Nat} {kind : Int}
theorem wild_ok (hi : i < 8) (hj : j < 12) : ∃ l, (recN tbl consts (n + 25)).fn "_law_wild" [(.int kind, true), (.int (i : Int), true), (.int (j : Int), true)] = .ok (lnV l, true) ∧ GoodLn l := by
  obtain ⟨p, hp⟩ : ∃ p, keyL[i]? = some p := ⟨_, List.getElem?_eq_getElem hi⟩
  obtain ⟨q, hq⟩ : ∃ q, numL[j]? = some q := ⟨_, List.getElem?_eq_getElem hj⟩
  obtain ⟨t, ht⟩ : ∃ t, shapeL[i]? = some t := ⟨_, List.getElem?_eq_getElem hi⟩
  have mp := List.mem_of_getElem? hp
  have mq := List.mem_of_getElem? hq
  have mt := List.mem_of_getElem? ht
  have e1 : indexV (.list (keyL.map keyT)) (.int (i : Int)) = .ok (keyT p) := idx_nat (by rw [List.getElem?_map, hp]; rfl)
  have e2 : indexV (.list (numL.map numT)) (.int (j : Int)) = .ok (numT q) := idx_nat (by rw [List.getElem?_map, hq]; rfl)
  have e3 : indexV (.list (shapeL.map V.str)) (.int (i : Int)) = .ok (.str t) := idx_nat (by rw [List.getElem?_map, ht]; rfl)
  have hf := key_fine p mp
  simp only [keyFine, Bool.and_eq_true, bne_iff_ne, decide_eq_true_eq] at hf
  have gf := num_fine q mq
  simp only [numFine, Bool.and_eq_true, bne_iff_ne, decide_eq_true_eq] at gf
  have l1 : (S "get ").length = 4 := rfl
  have l2 : (S "put\t").length = 4 := rfl
  have l3 : (S "  ").length = 2 := rfl
  have s1 : consts "_law_shape" = some (.str shapeS) := rfl
  have g1 : 4 + p.1.length ≤ 1000000 := by omega
  have g2 : 4 + p.1.length ≤ 999998 := by omega
  have g3 : 4 + p.1.length + 2 + q.1.length ≤ 1000000 := by omega
  rw [show n + 25 = (n + 24) + 1 from rfl, fn_succ]
  by_cases c1 : kind > 9
  · refine ⟨offL t shapeS, ?_, wild_shape t mt⟩
    simp [fnI, t_wild, b_law_wild, has_succ, blk_nil, blk_cons, next_then, ex_succ, exI, ts_succ, tsI, ev_succ, evI, ok_bind, exc_bind, bad_bind, cmpV, inV, eqV, eqD, fzV, evs, fzs, truthV, atom_none, atom_bool, atom_int, atom_str, atom_tuple, atom_list, lenV, allI, anyI, binV, appI, iterI, evIt, condI, bnd1, bndN, loopG_nil, loopG_cons, next_after, cont_after, onInt_ok, onStr_ok, onList_ok, onTup_ok, onO_ok, onTab_ok, onAcc_ok, arg0_ok, arg1_ok, addV, ltV, upd, List.lookup_cons, freeze, ret_then, updAll_nil, updAll_cons, lim, c1, shapes_ok, t_shapes, e3, s1, lnV, offL]
  · by_cases c2 : kind < 4
    · refine ⟨getL (S "get " ++ p.1) p.1 p.2, ?_, wild_get mp⟩
      simp [fnI, t_wild, b_law_wild, has_succ, blk_nil, blk_cons, next_then, ex_succ, exI, ts_succ, tsI, ev_succ, evI, ok_bind, exc_bind, bad_bind, cmpV, inV, eqV, eqD, fzV, evs, fzs, truthV, atom_none, atom_bool, atom_int, atom_str, atom_tuple, atom_list, lenV, allI, anyI, binV, appI, iterI, evIt, condI, bnd1, bndN, loopG_nil, loopG_cons, next_after, cont_after, onInt_ok, onStr_ok, onList_ok, onTup_ok, onO_ok, onTab_ok, onAcc_ok, arg0_ok, arg1_ok, addV, ltV, upd, List.lookup_cons, freeze, ret_then, updAll_nil, updAll_cons, lim, c1, c2, t_keys, keys_ok, e1, keyT, l1, g1, lnV, getL, deedV]
    · refine ⟨putL (S "put\t" ++ p.1 ++ S "  " ++ q.1) p.1 q.2.1 (wildWhy p q), ?_, wild_put mp mq⟩
      have w1 : ∀ n, (recN tbl consts (n + 12)).fn "_law_number_why" [(.int q.2.1, true), (.str q.2.2, true), (.int (-1000000000000000000), true)] = .ok (.str (whyNum q.2.1 q.2.2 (-1000000000000000000)), true) := fun n => why_ok gf.1.1.2 (by decide) (by decide +kernel)
      unfold wildWhy
      by_cases c3 : p.2 = S ""
      · have c3' : (p.2 == PySem.Str.ofString "") = true := beq_iff_eq.mpr c3
        rw [if_pos c3]
        simp [fnI, t_wild, b_law_wild, has_succ, blk_nil, blk_cons, next_then, ex_succ, exI, ts_succ, tsI, ev_succ, evI, ok_bind, exc_bind, bad_bind, cmpV, inV, eqV, eqD, fzV, evs, fzs, truthV, atom_none, atom_bool, atom_int, atom_str, atom_tuple, atom_list, lenV, allI, anyI, binV, appI, iterI, evIt, condI, bnd1, bndN, loopG_nil, loopG_cons, next_after, cont_after, onInt_ok, onStr_ok, onList_ok, onTup_ok, onO_ok, onTab_ok, onAcc_ok, arg0_ok, arg1_ok, addV, ltV, upd, List.lookup_cons, freeze, ret_then, updAll_nil, updAll_cons, lim, c1, c2, c3', t_keys, t_numbers, t_number_why, keys_ok, nums_ok, e1, e2, keyT, numT, l1, l2, l3, g1, g2, g3, len_app, lnV, putL, deedV, w1]
      · have c3' : (p.2 == PySem.Str.ofString "") = false := beq_eq_false_iff_ne.mpr c3
        rw [if_neg c3]
        simp [fnI, t_wild, b_law_wild, has_succ, blk_nil, blk_cons, next_then, ex_succ, exI, ts_succ, tsI, ev_succ, evI, ok_bind, exc_bind, bad_bind, cmpV, inV, eqV, eqD, fzV, evs, fzs, truthV, atom_none, atom_bool, atom_int, atom_str, atom_tuple, atom_list, lenV, allI, anyI, binV, appI, iterI, evIt, condI, bnd1, bndN, loopG_nil, loopG_cons, next_after, cont_after, onInt_ok, onStr_ok, onList_ok, onTup_ok, onO_ok, onTab_ok, onAcc_ok, arg0_ok, arg1_ok, addV, ltV, upd, List.lookup_cons, freeze, ret_then, updAll_nil, updAll_cons, lim, c1, c2, c3', t_keys, t_numbers, t_number_why, keys_ok, nums_ok, e1, e2, keyT, numT, l1, l2, l3, g1, g2, g3, len_app, lnV, putL, deedV, w1]
end
end L4
end Mine
end

section
set_option Elab.async false
set_option linter.unusedSimpArgs false
set_option maxRecDepth 100000
namespace Mine
open PySem
/-- x.fmod m is one of 0 .. m-1 -/
theorem fmod_nat (x : Int) (m : Nat) (hm : 0 < m) : ∃ i : Nat, i < m ∧ x.fmod (m : Int) = (i : Int) := by
  obtain ⟨i, h⟩ := fmod_fin x m hm
  exact ⟨i.val, i.isLt, h⟩
theorem look_at {l : List PySem.Str} {i : Nat} (h : i < l.length) : ∃ t ∈ l, indexV (.list (l.map V.str)) (.int (i : Int)) = .ok (.str t) := by
  have e := List.getElem?_eq_getElem h
  exact ⟨_, List.mem_of_getElem? e, idx_nat (by rw [List.getElem?_map, e]; rfl)⟩
namespace L4
open Mine
noncomputable def abcL : List PySem.Str := [S "a", S "b", S "c"]
noncomputable def valL : List (Int × PySem.Str) := [(-2, S "-2"), (-1, S "-1"), (0, S "0"), (1, S "1"), (2, S "2")]
theorem abc_at : ∀ i : Fin 3, ∃ k ∈ abcL, indexV (.str (S "abc")) (.int ((i.val : Nat) : Int)) = .ok (.str k) :=
  fin3 ⟨_, .head _, rfl⟩ ⟨_, .tail _ (.head _), rfl⟩ ⟨_, .tail _ (.tail _ (.head _)), rfl⟩
theorem val_at : ∀ b : Fin 5, ∃ q ∈ valL, ((b.val : Nat) : Int) - 2 = q.1 := by decide +kernel
theorem val_text : ∀ q ∈ valL, PySem.Str.ofString q.1.repr = q.2 ∧ q.1.natAbs < 1267650600228229401496703205376 ∧ q.2.length ≤ 2 := by decide +kernel
theorem abc_fine : ∀ k ∈ abcL, (PyData.strOk k = true ∧ k.length ≤ 1000) ∧ k.length = 1 := by decide +kernel
theorem gap_fine : ∀ g ∈ gapL, g.length ≤ 2 := by decide +kernel
section
variable {n : Nat} {x kind : Int}
theorem abc_name : ∀ k ∈ abcL, (recN tbl consts (n + 27)).fn "check_name" [(.str k, true)] = resOf (.str k) (S "") :=
  all_cons (by kernel_rfl) <| all_cons (by kernel_rfl) <| all_cons (by kernel_rfl) all_nil
theorem val_signed : ∀ q ∈ valL, (recN tbl consts (n + 27)).fn "parse_signed" [(.str q.2, true)] = resOf (.int q.1) (S "") :=
  all_cons (by kernel_rfl) <| all_cons (by kernel_rfl) <| all_cons (by kernel_rfl) <| all_cons (by kernel_rfl) <| all_cons (by kernel_rfl) all_nil
theorem calm_get {g k : PySem.Str} (hg : g ∈ gapL) (hk : k ∈ abcL) : GoodLn (getL (S "get" ++ g ++ k) k (S "")) := by
  have h : ∀ g ∈ gapL, ∀ k ∈ abcL, (S "get" ++ g ++ k).length ≤ 5000 ∧ noNl (S "get" ++ g ++ k) = true ∧ Txt.words (S "get" ++ g ++ k) = [S "get", k] := by decide +kernel
  obtain ⟨h1, h2, h3⟩ := h g hg k hk
  exact good_get h1 h2 h3 (fun n => abc_name k hk) (abc_fine k hk).1 (by decide)
theorem calm_put {g k : PySem.Str} {q : Int × PySem.Str} (hg : g ∈ gapL) (hk : k ∈ abcL) (hq : q ∈ valL) : GoodLn (putL (g ++ S "put " ++ k ++ g ++ q.2 ++ S "\r") k q.1 (S "")) := by
  have h : ∀ g ∈ gapL, ∀ k ∈ abcL, ∀ q ∈ valL, (g ++ S "put " ++ k ++ g ++ q.2 ++ S "\r").length ≤ 5000 ∧ noNl (g ++ S "put " ++ k ++ g ++ q.2 ++ S "\r") = true ∧ Txt.words (g ++ S "put " ++ k ++ g ++ q.2 ++ S "\r") = [S "put", k, q.2] := by decide +kernel
  obtain ⟨h1, h2, h3⟩ := h g hg k hk q hq
  exact good_put h1 h2 h3 (fun n => abc_name k hk) (fun n => val_signed q hq) (by decide) (abc_fine k hk).1 (by decide)
theorem t_calm : tbl "_law_calm" = some (["kind", "x"], b_law_calm) := rfl
theorem t_gaps : tbl "_law_gaps" = some ([], b_law_gaps) := rfl
theorem t_quiet : tbl "_law_quiet" = some ([], b_law_quiet) := rfl
theorem calm_ok : ∃ l, (recN tbl consts (n + 25)).fn "_law_calm" [(.int kind, true), (.int x, true)] = .ok (lnV l, true) ∧ GoodLn l := by
  obtain ⟨i3, h3⟩ := fmod_fin x 3 (by decide)
  obtain ⟨i4, h4⟩ := fmod_fin x 4 (by decide)
  obtain ⟨i5, h5⟩ := fmod_fin x 5 (by decide)
  obtain ⟨i6, h6⟩ := fmod_fin x 6 (by decide)
  obtain ⟨k, hk, e3⟩ := abc_at i3
  obtain ⟨g, hg, e4⟩ := look_at (l := gapL) i4.isLt
  obtain ⟨q, hq, e5⟩ := val_at i5
  obtain ⟨t, ht, e6⟩ := look_at (l := quietL) i6.isLt
  rw [← show x.fmod 3 = _ from h3] at e3
  rw [← show x.fmod 4 = _ from h4] at e4
  rw [← show x.fmod 5 = _ from h5] at e5
  rw [← show x.fmod 6 = _ from h6] at e6
  obtain ⟨_, lk⟩ := abc_fine k hk
  have lg := gap_fine g hg
  obtain ⟨tq, bq, lq⟩ := val_text q hq
  have l1 : (S "get").length = 3 := rfl
  have l2 : (S "put ").length = 4 := rfl
  have l3 : (S "\r").length = 1 := rfl
  have g1 : 3 + g.length ≤ 1000000 := by omega
  have g2 : 3 + g.length ≤ 999999 := by omega
  have g3 : g.length ≤ 999996 := by omega
  have g4 : g.length ≤ 999995 := by omega
  have g5 : g.length + 5 + g.length ≤ 1000000 := by omega
  have g6 : g.length + 5 + g.length + q.2.length ≤ 1000000 := by omega
  have g7 : g.length + 5 + g.length + q.2.length ≤ 999999 := by omega
  rw [show n + 25 = (n + 24) + 1 from rfl, fn_succ]
  by_cases c1 : kind < 2
  · refine ⟨getL (S "get" ++ g ++ k) k (S ""), ?_, calm_get hg hk⟩
    simp [fnI, t_calm, t_gaps, b_law_calm, has_succ, blk_nil, blk_cons, next_then, ex_succ, exI, ts_succ, tsI, ev_succ, evI, ok_bind, exc_bind, bad_bind, cmpV, inV, eqV, eqD, fzV, evs, fzs, truthV, atom_none, atom_bool, atom_int, atom_str, atom_tuple, atom_list, lenV, allI, anyI, binV, appI, iterI, evIt, condI, bnd1, bndN, loopG_nil, loopG_cons, next_after, cont_after, onInt_ok, onStr_ok, onList_ok, onTup_ok, onO_ok, onTab_ok, onAcc_ok, arg0_ok, arg1_ok, addV, ltV, upd, List.lookup_cons, freeze, ret_then, updAll_nil, updAll_cons, lim, c1, gaps_ok, e3, e4, e5, l1, lk, g1, g2, g3, len_app, lnV, getL, deedV]
    done
  · by_cases c2 : kind < 5
    · refine ⟨putL (g ++ S "put " ++ k ++ g ++ q.2 ++ S "\r") k q.1 (S ""), ?_, calm_put hg hk hq⟩
      simp [fnI, t_calm, t_gaps, b_law_calm, has_succ, blk_nil, blk_cons, next_then, ex_succ, exI, ts_succ, tsI, ev_succ, evI, ok_bind, exc_bind, bad_bind, cmpV, inV, eqV, eqD, fzV, evs, fzs, truthV, atom_none, atom_bool, atom_int, atom_str, atom_tuple, atom_list, lenV, allI, anyI, binV, appI, iterI, evIt, condI, bnd1, bndN, loopG_nil, loopG_cons, next_after, cont_after, onInt_ok, onStr_ok, onList_ok, onTup_ok, onO_ok, onTab_ok, onAcc_ok, arg0_ok, arg1_ok, addV, ltV, upd, List.lookup_cons, freeze, ret_then, updAll_nil, updAll_cons, lim, c1, c2, gaps_ok, e3, e4, e5, l1, l2, l3, lk, g1, g2, g3, g4, g5, g6, g7, len_app, tq, bq, lnV, putL, deedV]
      done
    · refine ⟨offL t (S ""), ?_, calm_quiet t ht⟩
      simp [fnI, t_calm, t_gaps, t_quiet, b_law_calm, has_succ, blk_nil, blk_cons, next_then, ex_succ, exI, ts_succ, tsI, ev_succ, evI, ok_bind, exc_bind, bad_bind, cmpV, inV, eqV, eqD, fzV, evs, fzs, truthV, atom_none, atom_bool, atom_int, atom_str, atom_tuple, atom_list, lenV, allI, anyI, binV, appI, iterI, evIt, condI, bnd1, bndN, loopG_nil, loopG_cons, next_after, cont_after, onInt_ok, onStr_ok, onList_ok, onTup_ok, onO_ok, onTab_ok, onAcc_ok, arg0_ok, arg1_ok, addV, ltV, upd, List.lookup_cons, freeze, ret_then, updAll_nil, updAll_cons, lim, c1, c2, gaps_ok, quiet_ok, e3, e4, e5, e6, len_app, lnV, offL]
      done
end
end L4
end Mine
end

section
set_option Elab.async false
set_option linter.unusedSimpArgs false
set_option maxRecDepth 100000
namespace Mine
open PySem
namespace L4
open Mine
noncomputable def sx (i : Int) : IE := .index (.var "script") (.const (.int i))
noncomputable def sm (i m : Int) : IE := .bin .mod (sx i) (.const (.int m))
noncomputable def wildE (a b c : Int) : IE := .bin .add (.bin .add (.upto (.var "lines") (.var "at")) (.list [.call "_law_wild" [sm a 12, sm b 8, sm c 12]])) (.behind (.var "lines") (.var "at"))
noncomputable def segL : List IS := [.assign "lines" (.list [.call "_law_calm" [sm 4 6, sx 5], .call "_law_calm" [sm 6 6, sx 7], .call "_law_calm" [sm 8 6, sx 9], .call "_law_calm" [sm 10 6, sx 11], .call "_law_calm" [sm 12 6, sx 13]]),
  .assign "at" (sm 17 6),
  .assign "lines" (wildE 14 15 16),
  .assign "at" (sm 21 12),
  .ite (.cmp .lt (.var "at") (.const (.int 6))) [.assign "lines" (wildE 18 19 20)] []]
noncomputable def Good (ls : List Ln) : Prop := (∀ l ∈ ls, GoodLn l) ∧ ls.length ≤ 7
section
variable {n : Nat} {φ : Frm} {sc : List V} {s : Nat → Int}
theorem sm_ok {i m : Int} {z : Int} (h : φ.lookup "script" = some (.val (.list sc) true)) (hi : indexV (.list sc) (.int i) = .ok (.int z)) (hm : m ≠ 0) : (recN tbl consts (n + 4)).ev φ (sm i m) = .ok (.int (z.fmod m), true) := by
  simp [sm, sx, ev_succ, evI, ok_bind, h, hi, binV, hm, onInt_ok, onStr_ok, onList_ok, onTup_ok, onO_ok, onTab_ok, onAcc_ok, arg0_ok, arg1_ok, addV, ltV]
theorem sx_ok {i : Int} {z : Int} (h : φ.lookup "script" = some (.val (.list sc) true)) (hi : indexV (.list sc) (.int i) = .ok (.int z)) : (recN tbl consts (n + 3)).ev φ (sx i) = .ok (.int z, true) := by
  simp [sx, ev_succ, evI, ok_bind, h, hi, onInt_ok, onStr_ok, onList_ok, onTup_ok, onO_ok, onTab_ok, onAcc_ok, arg0_ok, arg1_ok, addV, ltV]
theorem wildE_ok {a b c : Int} {za zb zc : Int} {at' : Nat} {ls : List Ln} (h : φ.lookup "script" = some (.val (.list sc) true)) (hl : φ.lookup "lines" = some (.val (.list (ls.map lnV)) true)) (ha : φ.lookup "at" = some (.val (.int (at' : Int)) true)) (hat : at' < 100)
    (ia : indexV (.list sc) (.int a) = .ok (.int za)) (ib : indexV (.list sc) (.int b) = .ok (.int zb)) (ic : indexV (.list sc) (.int c) = .ok (.int zc)) (hg : ∀ l ∈ ls, GoodLn l) (hls : ls.length ≤ 6) :
    ∃ ls' : List Ln, (recN tbl consts (n + 40)).ev φ (wildE a b c) = .ok (.list (ls'.map lnV), true) ∧ (∀ l ∈ ls', GoodLn l) ∧ ls'.length ≤ ls.length + 1 := by
  obtain ⟨i, hi⟩ := fmod_fin zb 8 (by decide)
  obtain ⟨j, hj⟩ := fmod_fin zc 12 (by decide)
  have hi : zb.fmod 8 = ((i.val : Nat) : Int) := hi
  have hj : zc.fmod 12 = ((j.val : Nat) : Int) := hj
  obtain ⟨l, w1, w2⟩ := wild_ok (n := n + 11) (kind := za.fmod 12) i.isLt j.isLt
  rw [← hi, ← hj] at w1
  have m1 := sm_ok (n := n + 32) (m := 12) h ia (by decide)
  have m2 := sm_ok (n := n + 32) (m := 8) h ib (by decide)
  have m3 := sm_ok (n := n + 32) (m := 12) h ic (by decide)
  have b1 : (at' : Int) < 1152921504606846976 := by omega
  have b2 : ls.length ≤ 1000000 := by omega
  refine ⟨ls.take at' ++ [l] ++ ls.drop at', ?_, ?_, ?_⟩
  · have b3 : min at' ls.length ≤ 999999 := by omega
    have b4 : min at' ls.length + 1 + (ls.length - at') ≤ 1000000 := by omega
    simp [wildE, ev_succ (n := n + 39), ev_succ (n := n + 38), ev_succ (n := n + 37), ev_succ (n := n + 36), evI, ok_bind, evs, fzs, fzV, binV, hl, ha, m1, m2, m3, has_succ, t_wild, w1, lim, b1, b2, b3, b4, onInt_ok, onStr_ok, onList_ok, onTup_ok, onO_ok, onTab_ok, onAcc_ok, arg0_ok, arg1_ok, addV, ltV]
  · intro x hx
    rcases List.mem_append.mp hx with hx | hx
    · rcases List.mem_append.mp hx with hx | hx
      · exact hg x (List.mem_of_mem_take hx)
      · rw [List.mem_singleton.mp hx]; exact w2
    · exact hg x (List.mem_of_mem_drop hx)
  · simp; omega
theorem segL_ok (h : φ.lookup "script" = some (.val (.list sc) true)) (hs : ∀ i : Nat, i < 23 → indexV (.list sc) (.int (i : Int)) = .ok (.int (s i))) :
    ∃ φ' ls, blk (recN tbl consts (n + 45)) φ segL = .ok (.next, φ') ∧ φ'.lookup "script" = some (.val (.list sc) true) ∧ φ'.lookup "lines" = some (.val (.list (ls.map lnV)) true) ∧ Good ls := by
  have hc : ∀ (k x : Int), ∃ l, (recN tbl consts (n + 42)).fn "_law_calm" [(.int k, true), (.int x, true)] = .ok (lnV l, true) ∧ GoodLn l := fun k x => calm_ok (n := n + 17)
  have m4 := sm_ok (n := n + 38) (i := 4) (m := 6) h (hs 4 (by decide)) (by decide)
  have m5 := sx_ok (n := n + 39) (i := 5) h (hs 5 (by decide))
  obtain ⟨l4, c4, g4⟩ := hc ((s 4).fmod 6) (s 5)
  have m6 := sm_ok (n := n + 38) (i := 6) (m := 6) h (hs 6 (by decide)) (by decide)
  have m7 := sx_ok (n := n + 39) (i := 7) h (hs 7 (by decide))
  obtain ⟨l6, c6, g6⟩ := hc ((s 6).fmod 6) (s 7)
  have m8 := sm_ok (n := n + 38) (i := 8) (m := 6) h (hs 8 (by decide)) (by decide)
  have m9 := sx_ok (n := n + 39) (i := 9) h (hs 9 (by decide))
  obtain ⟨l8, c8, g8⟩ := hc ((s 8).fmod 6) (s 9)
  have m10 := sm_ok (n := n + 38) (i := 10) (m := 6) h (hs 10 (by decide)) (by decide)
  have m11 := sx_ok (n := n + 39) (i := 11) h (hs 11 (by decide))
  obtain ⟨l10, c10, g10⟩ := hc ((s 10).fmod 6) (s 11)
  have m12 := sm_ok (n := n + 38) (i := 12) (m := 6) h (hs 12 (by decide)) (by decide)
  have m13 := sx_ok (n := n + 39) (i := 13) h (hs 13 (by decide))
  obtain ⟨l12, c12, g12⟩ := hc ((s 12).fmod 6) (s 13)
  let φ₁ := upd "lines" (.val (.list ([l4, l6, l8, l10, l12].map lnV)) true) φ
  have e1 : (recN tbl consts (n + 45)).ex φ (.assign "lines" (.list [.call "_law_calm" [sm 4 6, sx 5], .call "_law_calm" [sm 6 6, sx 7], .call "_law_calm" [sm 8 6, sx 9], .call "_law_calm" [sm 10 6, sx 11], .call "_law_calm" [sm 12 6, sx 13]])) = .ok (.next, φ₁) := by
    simp [ex_succ, exI, ev_succ (n := n + 43), ev_succ (n := n + 42), evI, ok_bind, evs, fzs, fzV, has_succ, t_calm, lim, m4, m5, m6, m7, m8, m9, m10, m11, m12, m13, c4, c6, c8, c10, c12, φ₁]
  obtain ⟨i, hi⟩ := fmod_fin (s 17) 6 (by decide)
  obtain ⟨j, hj⟩ := fmod_fin (s 21) 12 (by decide)
  have hi : (s 17).fmod 6 = ((i.val : Nat) : Int) := hi
  have hj : (s 21).fmod 12 = ((j.val : Nat) : Int) := hj
  have hi' := i.isLt
  have hj' := j.isLt
  have h1 : φ₁.lookup "script" = some (.val (.list sc) true) := by simp [φ₁, upd_lookup, h]
  have m17 := sm_ok (n := n + 40) (i := 17) (m := 6) h1 (hs 17 (by decide)) (by decide)
  let φ₂ := upd "at" (.val (.int (i.val : Int)) true) φ₁
  have e2 : (recN tbl consts (n + 45)).ex φ₁ (.assign "at" (sm 17 6)) = .ok (.next, φ₂) := by
    simp [ex_succ, exI, ok_bind, fzV, m17, hi, φ₂]
  obtain ⟨ls, w1, w2, w3⟩ := wildE_ok (n := n + 4) (φ := φ₂) (ls := [l4, l6, l8, l10, l12]) (at' := i.val) (by simp [φ₂, upd_lookup, h1]) (by simp [φ₂, φ₁, upd_lookup]) (by simp [φ₂, upd_lookup]) (by omega) (hs 14 (by decide)) (hs 15 (by decide)) (hs 16 (by decide)) (all_cons g4 (all_cons g6 (all_cons g8 (all_cons g10 (all_cons g12 all_nil))))) (by simp)
  let φ₃ := upd "lines" (.val (.list (ls.map lnV)) true) φ₂
  have e3 : (recN tbl consts (n + 45)).ex φ₂ (.assign "lines" (wildE 14 15 16)) = .ok (.next, φ₃) := by
    have w1 : (recN tbl consts (n + 44)).ev φ₂ (wildE 14 15 16) = _ := w1
    simp [ex_succ, exI, ok_bind, fzV, w1, φ₃]
  have h3 : φ₃.lookup "script" = some (.val (.list sc) true) := by simp [φ₃, φ₂, upd_lookup, h1]
  have m21 := sm_ok (n := n + 40) (i := 21) (m := 12) h3 (hs 21 (by decide)) (by decide)
  let φ₄ := upd "at" (.val (.int (j.val : Int)) true) φ₃
  have e4 : (recN tbl consts (n + 45)).ex φ₃ (.assign "at" (sm 21 12)) = .ok (.next, φ₄) := by
    simp [ex_succ, exI, ok_bind, fzV, m21, hj, φ₄]
  have w3 : ls.length ≤ 6 := w3
  have h4 : φ₄.lookup "script" = some (.val (.list sc) true) := by simp [φ₄, upd_lookup, h3]
  have l4' : φ₄.lookup "lines" = some (.val (.list (ls.map lnV)) true) := by simp [φ₄, φ₃, upd_lookup]
  have a4 : φ₄.lookup "at" = some (.val (.int (j.val : Int)) true) := by simp [φ₄, upd_lookup]
  have key : ∃ φ' ls, (recN tbl consts (n + 45)).ex φ₄ (.ite (.cmp .lt (.var "at") (.const (.int 6))) [.assign "lines" (wildE 18 19 20)] []) = .ok (.next, φ') ∧ φ'.lookup "script" = some (.val (.list sc) true) ∧ φ'.lookup "lines" = some (.val (.list (ls.map lnV)) true) ∧ Good ls := by
    by_cases c : ((j.val : Nat) : Int) < 6
    · obtain ⟨ls', x1, x2, x3⟩ := wildE_ok (n := n + 3) (φ := φ₄) (ls := ls) (at' := j.val) h4 l4' a4 (by omega) (hs 18 (by decide)) (hs 19 (by decide)) (hs 20 (by decide)) w2 w3
      have x1 : (recN tbl consts (n + 43)).ev φ₄ (wildE 18 19 20) = _ := x1
      refine ⟨upd "lines" (.val (.list (ls'.map lnV)) true) φ₄, ls', ?_, by simp [upd_lookup, h4], by simp [upd_lookup], x2, by omega⟩
      have ht : (recN tbl consts (n + 44)).ts φ₄ (.cmp .lt (.var "at") (.const (.int 6))) = .ok true := by
        simp [ts_succ, tsI, ev_succ, evI, ok_bind, a4, cmpV, c, onInt_ok, onStr_ok, onList_ok, onTup_ok, onO_ok, onTab_ok, onAcc_ok, arg0_ok, arg1_ok, addV, ltV]
      simp [ex_succ (n := n + 44), ex_succ (n := n + 43), exI, ok_bind, ht, blk_cons, blk_nil, next_then, x1, fzV, onInt_ok, onStr_ok, onList_ok, onTup_ok, onO_ok, onTab_ok, onAcc_ok, arg0_ok, arg1_ok, addV, ltV]
    · refine ⟨φ₄, ls, ?_, h4, l4', w2, by omega⟩
      simp [ex_succ (n := n + 44), exI, ts_succ, tsI, ev_succ (n := n + 42), evI, ok_bind, a4, cmpV, c, blk_nil, onInt_ok, onStr_ok, onList_ok, onTup_ok, onO_ok, onTab_ok, onAcc_ok, arg0_ok, arg1_ok, addV, ltV]
  obtain ⟨φ', ls', k1, k2⟩ := key
  refine ⟨φ', ls', ?_, k2⟩
  unfold segL
  rw [blk_cons, e1, ok_bind, next_then, blk_cons, e2, ok_bind, next_then, blk_cons, e3, ok_bind, next_then, blk_cons, e4, ok_bind, next_then, blk_cons, k1, ok_bind, next_then, blk_nil]
end
end L4
end Mine
end

section
set_option Elab.async false
set_option linter.unusedSimpArgs false
set_option maxRecDepth 100000
namespace Mine
open PySem
namespace L4
open Mine
theorem fb_none : ∀ (ls : List Ln) (k : Nat), (∀ l ∈ ls, l.why = S "") → firstBad ls k = none := by
  intro v0
  induction v0 with
  | nil => intro _ _; exact rfl
  | cons l ls ih =>
    intro k h
    have e : firstBad (l :: ls) k = firstBad ls (k + 1) := if_neg fun z => z (h l (.head _))
    rw [e]; exact ih (k + 1) fun x hx => h x (.tail _ hx)
/-- where the first bad line stands -/
noncomputable def badAt (ls : List Ln) : Nat := match ls with
  | [] => 0
  | l :: ls => if l.why = S "" then badAt ls + 1 else 0
theorem badAt_le : ∀ ls : List Ln, badAt ls ≤ ls.length := by
  intro v0
  induction v0 with
  | nil => exact Nat.le_refl _
  | cons l ls ih =>
    unfold badAt
    split
    · simpa using ih
    · exact Nat.zero_le _
theorem badAt_top : ∀ ls : List Ln, ∀ l ∈ ls.take (badAt ls), l.why = S "" := by
  intro v0
  induction v0 with
  | nil => exact fun l h => nomatch h
  | cons l ls ih =>
    unfold badAt
    by_cases c : l.why = S ""
    · rw [if_pos c, List.take_succ_cons]
      exact all_cons c ih
    · rw [if_neg c]; exact fun l h => nomatch h
theorem badAt_fb : ∀ (ls : List Ln) (k : Nat), (badAt ls = ls.length ∧ firstBad ls k = none) ∨ (∃ l, ls[badAt ls]? = some l ∧ l.why ≠ S "" ∧ firstBad ls k = some (k + badAt ls, l.why)) := by
  intro v0
  induction v0 with
  | nil => intro k; exact .inl ⟨rfl, rfl⟩
  | cons l ls ih =>
    intro k
    unfold badAt firstBad
    by_cases c : l.why = S ""
    · rw [if_pos c, if_neg (fun z => z c)]
      rcases ih (k + 1) with ⟨a, b⟩ | ⟨x, a, b, d⟩
      · exact .inl ⟨by rw [a]; rfl, b⟩
      · exact .inr ⟨x, by simpa using a, b, by rw [d]; simp; omega⟩
    · rw [if_neg c, if_pos c]
      exact .inr ⟨l, rfl, c, rfl⟩
noncomputable def fbb : List IS := [.ite (.cmp .ne (.index (.index (.var "lines") (.var "i")) (.const (.int 2))) (.const (.str (PySem.Str.ofString "")))) [.ret (.var "i")] []]
theorem t_first_bad : tbl "_law_first_bad" = some (["lines"], b_law_first_bad) := rfl
section
variable {n : Nat} {φ : Frm}
noncomputable def numsU (k m : Nat) : List (V × Bool) := (List.range' k m).map fun (i : Nat) => (V.int (i : Int), true)
theorem loop_bad : ∀ (rest pre : List Ln) (φ : Frm), φ.lookup "lines" = some (.val (.list ((pre ++ rest).map lnV)) true) →
    (badAt rest = rest.length ∧ ∃ φ', loopG (recN tbl consts (n + 10)) (bnd1 "i") fbb φ (numsU pre.length rest.length) = .ok (.next, φ') ∧ φ'.lookup "lines" = φ.lookup "lines") ∨
    (badAt rest < rest.length ∧ ∃ φ', loopG (recN tbl consts (n + 10)) (bnd1 "i") fbb φ (numsU pre.length rest.length) = .ok (.ret (.int ((pre.length + badAt rest : Nat) : Int)) true, φ')) := by
  intro v0
  induction v0 with
  | nil => intro pre φ h; exact .inl ⟨rfl, φ, rfl, rfl⟩
  | cons l rest ih =>
    intro pre φ h
    have hu : numsU pre.length (l :: rest).length = (V.int (pre.length : Int), true) :: numsU (pre.length + 1) rest.length := rfl
    have e1 : indexV (.list ((pre ++ l :: rest).map lnV)) (.int (pre.length : Int)) = .ok (lnV l) := idx_nat (by simp)
    have e2 : indexV (lnV l) (.int 2) = .ok (.str l.why) := rfl
    have e3 : pre ++ l :: rest = (pre ++ [l]) ++ rest := by simp
    have e4 : (pre ++ [l]).length = pre.length + 1 := by simp
    rw [hu]
    unfold badAt
    by_cases c : l.why = S ""
    · have c' : (l.why == PySem.Str.ofString "") = true := beq_iff_eq.mpr c
      rw [if_pos c]
      have hstep : loopG (recN tbl consts (n + 10)) (bnd1 "i") fbb φ ((V.int (pre.length : Int), true) :: numsU (pre.length + 1) rest.length) = loopG (recN tbl consts (n + 10)) (bnd1 "i") fbb (upd "i" (.val (.int (pre.length : Int)) true) φ) (numsU (pre.length + 1) rest.length) := by
        simp [fbb, blk_nil, blk_cons, next_then, ex_succ, exI, ts_succ, tsI, ev_succ, evI, ok_bind, upd_lookup, cmpV, eqV, fzV, bnd1, loopG_cons, next_after, h, e1, e2, c', -List.map_append, -List.map_cons, onInt_ok, onStr_ok, onList_ok, onTup_ok, onO_ok, onTab_ok, onAcc_ok, arg0_ok, arg1_ok, addV, ltV]
      rw [hstep]
      have hl : (upd "i" (.val (.int (pre.length : Int)) true) φ).lookup "lines" = some (.val (.list (((pre ++ [l]) ++ rest).map lnV)) true) := by rw [upd_lookup, if_neg (by decide), h, e3]
      rcases ih (pre ++ [l]) _ hl with ⟨a, φ', b, d⟩ | ⟨a, φ', b⟩
      · rw [e4] at b
        exact .inl ⟨by rw [a]; rfl, φ', b, by rw [d, upd_lookup, if_neg (by decide)]⟩
      · rw [e4] at b
        exact .inr ⟨by simpa using a, φ', by rw [b, show pre.length + 1 + badAt rest = pre.length + (badAt rest + 1) from by omega]⟩
    · have c' : (l.why == PySem.Str.ofString "") = false := beq_eq_false_iff_ne.mpr c
      rw [if_neg c]
      refine .inr ⟨by simp, upd "i" (.val (.int (pre.length : Int)) true) φ, ?_⟩
      simp [fbb, blk_nil, blk_cons, next_then, ret_then, ex_succ, exI, ts_succ, tsI, ev_succ, evI, ok_bind, upd_lookup, cmpV, eqV, fzV, bnd1, loopG_cons, ret_after, freeze_lookup, frz, h, e1, e2, c', -List.map_append, -List.map_cons, onInt_ok, onStr_ok, onList_ok, onTup_ok, onO_ok, onTab_ok, onAcc_ok, arg0_ok, arg1_ok, addV, ltV]
theorem first_bad_ok {ls : List Ln} (hl : ls.length ≤ 100) : (recN tbl consts (n + 12)).fn "_law_first_bad" [(.list (ls.map lnV), true)] = .ok (.int (badAt ls : Int), true) := by
  have e : b_law_first_bad = [.for1 "i" (.range (.len (.var "lines"))) fbb, .ret (.len (.var "lines"))] := rfl
  have e2 : (ls.length : Int) ≤ 1000000 := by omega
  have e3 : (List.range ls.length).map (fun (i : Nat) => (V.int (i : Int), true)) = numsU 0 ls.length := by rw [List.range_eq_range']; rfl
  rcases loop_bad (n := n) ls [] [("lines", .val (.list (ls.map lnV)) true)] rfl with ⟨a, φ', b, d⟩ | ⟨a, φ', b⟩
  · have b : loopG _ _ _ _ (numsU 0 ls.length) = _ := b
    have d : φ'.lookup "lines" = some (.val (.list (ls.map lnV)) true) := d
    rw [a]
    simp [fn_succ, fnI, t_first_bad, e, blk_nil, blk_cons, next_then, ret_then, ex_succ, exI, ev_succ, evI, ok_bind, List.lookup_cons, iterI, lenV, e2, e3, b, d, freeze_lookup, frz, onInt_ok, onStr_ok, onList_ok, onTup_ok, onO_ok, onTab_ok, onAcc_ok, arg0_ok, arg1_ok, addV, ltV]
  · have b : loopG _ _ _ _ (numsU 0 ls.length) = _ := b
    simp [fn_succ, fnI, t_first_bad, e, blk_nil, blk_cons, next_then, ret_then, ex_succ, exI, ev_succ, evI, ok_bind, List.lookup_cons, iterI, lenV, e2, e3, b, onInt_ok, onStr_ok, onList_ok, onTup_ok, onO_ok, onTab_ok, onAcc_ok, arg0_ok, arg1_ok, addV, ltV]
end
end L4
end Mine
end

section
set_option Elab.async false
set_option linter.unusedSimpArgs false
set_option maxRecDepth 100000
namespace Mine
open PySem
theorem eqV_str {a b : PySem.Str} : eqV (.str a) (.str b) = .ok (a == b) := rfl
namespace L4
open Mine
noncomputable def isDeed : TE := .isNone (.index (.var "line") (.const (.int 1))) false
theorem comp_wanted {n : Nat} {ψ : Frm} : ∀ ls : List Ln, (∀ l ∈ ls, GoodLn l) → (∀ l ∈ ls, l.why = S "") → compI (recN tbl consts (n+6)) ψ (.index (.var "line") (.const (.int 1))) "line" (some isDeed) (ls.map fun l => (lnV l, true)) = .ok ((deedsL ls).map deedV) := by
  intro v0
  induction v0 with
  | nil => intro _ _; rfl
  | cons l ls ih =>
    intro hg hw
    have i1 := ih (fun x hx => hg x (.tail _ hx)) (fun x hx => hw x (.tail _ hx))
    have hs := (hg l (.head _)).said (hw l (.head _))
    have e : deedsL (l :: ls) = l.deed.toList ++ deedsL ls := rfl
    have e1 : indexV (lnV l) (.int 1) = .ok l.shown := rfl
    rw [List.map_cons, e]
    cases hd : l.deed with
    | none =>
      rw [hd] at hs
      rw [compI_no (by simp [isDeed, condI, ts_succ, tsI, ev_succ, evI, upd_lookup, ok_bind, e1, hs]), i1]; rfl
    | some d =>
      rw [hd] at hs
      rw [compI_yes (e := deedV d) (by simp [isDeed, condI, ts_succ, tsI, ev_succ, evI, upd_lookup, ok_bind, e1, hs, deedV]) (by simp [ev_succ, evI, upd_lookup, ok_bind, e1, hs, fzV]), i1]; rfl
noncomputable def segR1 : List IS := [.assign "bad" (.call "_law_first_bad" [.var "lines"]),
  .assign "wanted" (.comp (.index (.var "line") (.const (.int 1))) "line" (.plain (.upto (.var "lines") (.var "bad"))) (some isDeed)),
  .unpack ["ops", "why"] (.call "_law_read" [.var "lines"])]
noncomputable def segR2 : IS := .ite (.cmp .lt (.var "bad") (.len (.var "lines"))) [.ite (.cmp .ne (.var "why") (.bin .add (.bin .add (.bin .add (.const (.str (PySem.Str.ofString "line "))) (.strOf (.bin .add (.var "bad") (.const (.int 1))))) (.const (.str (PySem.Str.ofString ": ")))) (.index (.index (.var "lines") (.var "bad")) (.const (.int 2))))) [.ret (.const (.bool false))] [],
  .unpack ["ops", "why"] (.call "_law_read" [.upto (.var "lines") (.var "bad")])] []
noncomputable def segR3 : IS := .ite (.or [.cmp .ne (.var "why") (.const (.str (PySem.Str.ofString ""))),
  .cmp .ne (.var "ops") (.var "wanted")]) [.ret (.const (.bool false))] []
noncomputable def segR : List IS := segR1 ++ [segR2, segR3]
theorem deeds_len : ∀ ls : List Ln, (deedsL ls).length ≤ ls.length := by
  intro v0
  induction v0 with
  | nil => simp [deedsL]
  | cons a cs ih =>
    have e : deedsL (a :: cs) = a.deed.toList ++ deedsL cs := rfl
    have : a.deed.toList.length ≤ 1 := by cases a.deed <;> simp
    rw [e, List.length_append, List.length_cons]; omega
theorem deeds_key {ls : List Ln} (hg : ∀ l ∈ ls, GoodLn l) : ∀ d ∈ deedsL ls, PyData.strOk d.key = true ∧ d.key.length ≤ 1000 := by
  intro d hd
  obtain ⟨l, hl, h⟩ := List.mem_flatMap.mp hd
  exact (hg l hl).keys d (by simpa using h)
theorem deed_nice {d : Deed} (h : PyData.strOk d.key = true) (k : Nat) : niceK (k + 2) (deedV d) = true := by
  have e1 : PyData.strOk (PySem.Str.ofString "get") = true := by decide +kernel
  have e2 : PyData.strOk (PySem.Str.ofString "put") = true := by decide +kernel
  cases hd : d.get <;> simp [niceK, deedV, h, hd, e1, e2]
theorem deeds_eq {ds : List Deed} (h : ∀ d ∈ ds, PyData.strOk d.key = true ∧ d.key.length ≤ 1000) : eqV (.list (ds.map deedV)) (.list (ds.map deedV)) = .ok true := eq_list (by
  simp only [niceK, List.all_eq_true]
  intro v hv
  obtain ⟨d, hd, rfl⟩ := List.mem_map.mp hv
  exact deed_nice (h d hd).1 17)
theorem small_text : ∀ j : Fin 8, (PySem.Str.ofString ((j.val : Int) + 1).repr).length ≤ 10 := by decide +kernel
theorem take_flag (ls : List Ln) (k : Nat) : ((ls.map lnV).take k).map (fun d => (d, true)) = (ls.take k).map fun l => (lnV l, true) := by
  rw [← List.map_take, List.map_map]; rfl
section
variable {n : Nat} {φ : Frm} {ls : List Ln}
theorem segR_ok (h : φ.lookup "lines" = some (.val (.list (ls.map lnV)) true)) (hg : Good ls) : ∃ (φ' : Frm) (ds : List Deed), blk (recN tbl consts (n + 45)) φ segR = .ok (.next, φ') ∧ φ'.lookup "script" = φ.lookup "script" ∧ φ'.lookup "ops" = some (.val (.list (ds.map deedV)) true) ∧ φ'.lookup "wanted" = some (.val (.list (ds.map deedV)) true) ∧ ds.length ≤ 7 ∧ ∀ d ∈ ds, PyData.strOk d.key = true ∧ d.key.length ≤ 1000 := by
  obtain ⟨hg, hl⟩ := hg
  have hbl := badAt_le ls
  have htop := badAt_top ls
  have hgt : ∀ l ∈ ls.take (badAt ls), GoodLn l := fun l hx => hg l (List.mem_of_mem_take hx)
  have hlt : (ls.take (badAt ls)).length ≤ 7 := by rw [List.length_take]; omega
  have f1 := first_bad_ok (n := n + 31) (ls := ls) (by omega)
  have r1 := law_read_ok (n := n + 7) hg (by omega)
  have w1 := comp_wanted (n := n + 37) (ψ := vals (upd "bad" (.val (.int (badAt ls : Int)) true) φ)) _ hgt htop
  have b1 : ((badAt ls : Nat) : Int) < 1152921504606846976 := by omega
  have b2 : ls.length ≤ 1000000 := by omega
  have b3 : min (badAt ls) ls.length ≤ 1000000 := by omega
  have tf := take_flag ls (badAt ls)
  have e0 : (PySem.Str.ofString "" == PySem.Str.ofString "") = true := by decide
  obtain ⟨o, y, eg⟩ : ∃ o y, gotV ls = .tuple [o, .str y] := by
    unfold gotV
    split <;> exact ⟨_, _, rfl⟩
  have dk := deeds_key hgt
  let ds := deedsL (ls.take (badAt ls))
  have qd : eqV (.list (ds.map deedV)) (.list (ds.map deedV)) = .ok true := deeds_eq dk
  let φ₁ := upd "why" (.val (.str y) true) (upd "ops" (.val o true) (upd "wanted" (.val (.list (ds.map deedV)) true) (upd "bad" (.val (.int (badAt ls : Int)) true) φ)))
  have s1 : blk (recN tbl consts (n + 45)) φ segR1 = .ok (.next, φ₁) := by
    rw [eg] at r1
    simp [segR1, blk_nil, blk_cons, next_then, ex_succ, exI, ev_succ, evI, ok_bind, upd_lookup, fzV, evs, iterI, evIt, It.simple, h, has_succ, t_first_bad, t_law_read, f1, r1, w1, tf, b1, b2, b3, lim, updAll_nil, updAll_cons, φ₁, ds, -List.map_take, onInt_ok, onStr_ok, onList_ok, onTup_ok, onO_ok, onTab_ok, onAcc_ok, arg0_ok, arg1_ok, addV, ltV]
  have h1 : φ₁.lookup "lines" = some (.val (.list (ls.map lnV)) true) := by simp [φ₁, upd_lookup, h]
  have h2 : φ₁.lookup "bad" = some (.val (.int (badAt ls : Int)) true) := by simp [φ₁, upd_lookup]
  have s3 : ∀ ψ : Frm, ψ.lookup "why" = some (.val (.str (S "")) true) → ψ.lookup "ops" = some (.val (.list (ds.map deedV)) true) → ψ.lookup "wanted" = some (.val (.list (ds.map deedV)) true) → (recN tbl consts (n + 45)).ex ψ segR3 = .ok (.next, ψ) := by
    intro ψ z1 z2 z3
    simp [segR3, blk_nil, ex_succ, exI, ts_succ, tsI, ev_succ, evI, ok_bind, cmpV, anyI, eqV_str, e0, qd, z1, z2, z3, onInt_ok, onStr_ok, onList_ok, onTup_ok, onO_ok, onTab_ok, onAcc_ok, arg0_ok, arg1_ok, addV, ltV]
  have hdl : ds.length ≤ 7 := Nat.le_trans (deeds_len _) hlt
  unfold segR
  rw [blk_app, s1, ok_bind, next_then]
  rcases badAt_fb ls 0 with ⟨a, b⟩ | ⟨l, a, b, d⟩
  · -- no bad line
    have et : ls.take (badAt ls) = ls := by rw [a, List.take_length]
    have eg' : gotV ls = .tuple [.list ((deedsL ls).map deedV), .str (S "")] := by unfold gotV; rw [b]
    rw [eg'] at eg
    have c1 : ¬ ((badAt ls : Nat) : Int) < (ls.length : Int) := by omega
    have s2 : (recN tbl consts (n + 45)).ex φ₁ segR2 = .ok (.next, φ₁) := by
      simp [segR2, blk_nil, ex_succ, exI, ts_succ, tsI, ev_succ, evI, ok_bind, cmpV, h1, h2, lenV, c1, onInt_ok, onStr_ok, onList_ok, onTup_ok, onO_ok, onTab_ok, onAcc_ok, arg0_ok, arg1_ok, addV, ltV]
    obtain ⟨e3, e4⟩ : V.list (ds.map deedV) = o ∧ S "" = y := by
      injection eg with eg
      injection eg with eg1 eg
      injection eg with eg2 _
      injection eg2 with eg2
      refine ⟨?_, eg2⟩
      show V.list ((deedsL (ls.take (badAt ls))).map deedV) = o
      rw [et]; exact eg1
    refine ⟨φ₁, ds, ?_, by simp [φ₁, upd_lookup], by simp [φ₁, upd_lookup, e3], by simp [φ₁, upd_lookup], hdl, dk⟩
    rw [blk_cons, s2, ok_bind, next_then, blk_cons, s3 φ₁ (by simp [φ₁, upd_lookup, e4]) (by simp [φ₁, upd_lookup, e3]) (by simp [φ₁, upd_lookup])]; rfl
  · -- a bad line
    have hlt' : badAt ls < ls.length := (List.getElem?_eq_some_iff.mp a).1
    have c1 : ((badAt ls : Nat) : Int) < (ls.length : Int) := by omega
    have eg' : gotV ls = .tuple [.none, .str (lineTxt ((badAt ls : Int) + 1) l.why)] := by unfold gotV; rw [d, Nat.zero_add]
    have e4 : lineTxt ((badAt ls : Int) + 1) l.why = y := by
      rw [eg'] at eg
      injection eg with eg
      injection eg with _ eg
      injection eg with eg _
      injection eg with eg
    have i1 : indexV (.list (ls.map lnV)) (.int (badAt ls : Int)) = .ok (lnV l) := idx_nat (by rw [List.getElem?_map, a]; rfl)
    have i2 : indexV (lnV l) (.int 2) = .ok (.str l.why) := rfl
    have eg2 : gotV (ls.take (badAt ls)) = .tuple [.list (ds.map deedV), .str (S "")] := by unfold gotV; rw [fb_none _ 0 htop]
    have r2 := law_read_ok (n := n + 6) hgt (by omega)
    rw [eg2] at r2
    have lw := (hg l (List.mem_of_getElem? a)).whyLen
    have st := small_text ⟨badAt ls, by omega⟩
    have st : (PySem.Str.ofString ((badAt ls : Int) + 1).repr).length ≤ 10 := st
    have k1 : (S "line ").length = 5 := rfl
    have k2 : (S ": ").length = 2 := rfl
    have p0 : ((badAt ls : Int) + 1).natAbs < 1267650600228229401496703205376 := by omega
    have p1 : 5 + (PySem.Str.ofString ((badAt ls : Int) + 1).repr).length ≤ 1000000 := by omega
    have p2 : 5 + (PySem.Str.ofString ((badAt ls : Int) + 1).repr).length ≤ 999998 := by omega
    have p3 : 5 + (PySem.Str.ofString ((badAt ls : Int) + 1).repr).length + 2 + l.why.length ≤ 1000000 := by omega
    have ey : y = PySem.Str.ofString "line " ++ PySem.Str.ofString ((badAt ls : Int) + 1).repr ++ PySem.Str.ofString ": " ++ l.why := e4.symm
    have h3 : φ₁.lookup "why" = some (.val (.str y) true) := by simp [φ₁, upd_lookup]
    let φ₂ := upd "why" (.val (.str (S "")) true) (upd "ops" (.val (.list (ds.map deedV)) true) φ₁)
    have tk : (ls.map lnV).take (badAt ls) = (ls.take (badAt ls)).map lnV := List.map_take.symm
    have s2 : (recN tbl consts (n + 45)).ex φ₁ segR2 = .ok (.next, φ₂) := by
      simp [segR2, blk_nil, blk_cons, next_then, ex_succ, exI, ts_succ, tsI, ev_succ, evI, ok_bind, upd_lookup, cmpV, h1, h2, h3, lenV, c1, binV, evs, i1, i2, eqV_str, ey, k1, k2, p0, p1, p2, p3, len_app, lim, b1, b2, has_succ, t_law_read, tk, r2, updAll_nil, updAll_cons, φ₂, -List.map_take, onInt_ok, onStr_ok, onList_ok, onTup_ok, onO_ok, onTab_ok, onAcc_ok, arg0_ok, arg1_ok, addV, ltV]
      done
    refine ⟨φ₂, ds, ?_, by simp [φ₂, φ₁, upd_lookup], by simp [φ₂, upd_lookup], by simp [φ₂, φ₁, upd_lookup], hdl, dk⟩
    rw [blk_cons, s2, ok_bind, next_then, blk_cons, s3 φ₂ (by simp [φ₂, upd_lookup]) (by simp [φ₂, upd_lookup]) (by simp [φ₂, φ₁, upd_lookup])]; rfl
end
end L4
end Mine
end

section
set_option Elab.async false
set_option linter.unusedSimpArgs false
set_option maxRecDepth 100000
namespace Mine
open PySem
namespace L4
open Mine
noncomputable def rawL : List (V × PySem.Str) := [(.str (S ""), S "a name may not be empty, nor begin or end with a space: ''"), (.str (S " a"), S "a name may not be empty, nor begin or end with a space: ' a'"), (.str (S "a\t"), S "a name may not be empty, nor begin or end with a space: 'a\\t'"), (.none, S "a name must be text"), (.int 7, S "a name must be text"), (.str (S "a b"), S "")]
noncomputable def rawT (p : V × PySem.Str) : V := .tuple [p.1, .str p.2]
theorem t_raw_names : tbl "_law_raw_names" = some ([], b_law_raw_names) := rfl
theorem t_gates : tbl "_law_gates_hold" = some (["which", "pick", "n", "lowest"], b_law_gates_hold) := rfl
theorem t_check_number : tbl "check_number" = some (["value", "lowest"], b_check_number) := rfl
noncomputable def wholeS : PySem.Str := S "a number must be whole"
noncomputable def gate1 : List IS := [.unpack ["raw", "due"] (.index (.call "_law_raw_names" []) (.var "which")),
  .assign "got" (.const .none),
  .assign "why" (.const (.str (PySem.Str.ofString ""))),
  .tryStr "got" (.call "check_name" [.var "raw"]) "why" "error",
  .ite (.cmp .ne (.var "why") (.var "due")) [.ret (.const (.bool false))] [],
  .ite (.and [.cmp .eq (.var "due") (.const (.str (PySem.Str.ofString ""))),
  .cmp .ne (.var "got") (.var "raw")]) [.ret (.const (.bool false))] []]
noncomputable def gate2 : List IS := [.assign "raw" (.index (.list [.const (.bool true),
  .const (.bool false),
  .const (.flt 4607182418800017408),
  .const (.str (PySem.Str.ofString "1")),
  .const .none,
  .var "n",
  .var "lowest",
  .bin .sub (.var "lowest") (.const (.int 1)),
  .bin .pow (.const (.int 10)) (.const (.int 18)),
  .bin .add (.bin .pow (.const (.int 10)) (.const (.int 18))) (.const (.int 1))]) (.var "pick")),
  .assign "due" (.const (.str (PySem.Str.ofString "a number must be whole"))),
  .ite (.cmp .gt (.var "pick") (.const (.int 4))) [.assign "due" (.call "_law_number_why" [.var "raw",
  .const (.str (PySem.Str.ofString "")),
  .var "lowest"])] [],
  .assign "got" (.const .none),
  .assign "why" (.const (.str (PySem.Str.ofString ""))),
  .tryStr "got" (.call "check_number" [.var "raw",
  .var "lowest"]) "why" "error",
  .ite (.cmp .ne (.var "why") (.var "due")) [.ret (.const (.bool false))] [],
  .ite (.and [.cmp .eq (.var "due") (.const (.str (PySem.Str.ofString ""))),
  .or [.cmp .ne (.var "got") (.var "raw"),
  .typeIs (.var "got") "int" false]]) [.ret (.const (.bool false))] [],
  .ret (.const (.bool true))]
theorem gate_eq : b_law_gates_hold = gate1 ++ gate2 := rfl
section
variable {n : Nat} {φ : Frm} {z lo v : Int} {d : V}
theorem raws_ok : (recN tbl consts (n + 6)).fn "_law_raw_names" [] = .ok (.list (rawL.map rawT), true) := by kernel_rfl
theorem raw_name : ∀ p ∈ rawL, (recN tbl consts (n + 27)).fn "check_name" [(p.1, true)] = resOf p.1 p.2 :=
  all_cons (by kernel_rfl) <| all_cons (by kernel_rfl) <| all_cons (by kernel_rfl) <| all_cons (by kernel_rfl) <| all_cons (by kernel_rfl) <| all_cons (by kernel_rfl) all_nil
theorem raw_end : ∀ p ∈ rawL, p.2 ≠ S "" ∨ (p.2 = S "" ∧ p.1 = .str (S "a b")) :=
  all_cons (.inl (by decide)) <| all_cons (.inl (by decide)) <| all_cons (.inl (by decide)) <| all_cons (.inl (by decide)) <| all_cons (.inl (by decide)) <| all_cons (.inr ⟨rfl, rfl⟩) all_nil
theorem gate1_ok {i : Nat} (hi : i < 6) (h : φ.lookup "which" = some (.val (.int (i : Int)) true)) : ∃ φ', blk (recN tbl consts (n + 35)) φ gate1 = .ok (.next, φ') ∧ ∀ x ∈ ["pick", "n", "lowest"], φ'.lookup x = φ.lookup x := by
  obtain ⟨p, hp⟩ : ∃ p, rawL[i]? = some p := ⟨_, List.getElem?_eq_getElem hi⟩
  have mp := List.mem_of_getElem? hp
  have e1 : indexV (.list (rawL.map rawT)) (.int (i : Int)) = .ok (rawT p) := idx_nat (by rw [List.getElem?_map, hp]; rfl)
  have e2 : rawT p = .tuple [p.1, .str p.2] := rfl
  have c := raw_name (n := n + 6) p mp
  rcases raw_end p mp with w | ⟨w, u⟩
  · have w' : (p.2 == PySem.Str.ofString "") = false := beq_eq_false_iff_ne.mpr w
    rw [resOf_exc w] at c
    refine ⟨upd "why" (.val (.str p.2) true) (upd "error" .gone (upd "why" (.val (.str (S "")) true) (upd "got" (.val .none true) (upd "due" (.val (.str p.2) true) (upd "raw" (.val p.1 true) φ))))), ?_, ?_⟩
    · simp [gate1, blk_nil, blk_cons, next_then, ex_succ, exI, ts_succ, tsI, ev_succ, evI, ok_bind, exc_bind, upd_lookup, cmpV, eqV_str, fzV, evs, has_succ, t_raw_names, t_check_name, raws_ok, h, e1, e2, c, updAll_nil, updAll_cons, w', allI, onInt_ok, onStr_ok, onList_ok, onTup_ok, onO_ok, onTab_ok, onAcc_ok, arg0_ok, arg1_ok, addV, ltV]
    · intro x hx
      simp only [List.mem_cons, List.not_mem_nil, or_false] at hx
      rcases hx with rfl | rfl | rfl <;> simp [upd_lookup]
  · have e0 : (PySem.Str.ofString "" == PySem.Str.ofString "") = true := by decide
    rw [resOf_ok w, u] at c
    rw [w, u] at e2
    refine ⟨upd "got" (.val (.str (S "a b")) true) (upd "why" (.val (.str (S "")) true) (upd "got" (.val .none true) (upd "due" (.val (.str (S "")) true) (upd "raw" (.val (.str (S "a b")) true) φ)))), ?_, ?_⟩
    · simp [gate1, blk_nil, blk_cons, next_then, ex_succ, exI, ts_succ, tsI, ev_succ, evI, ok_bind, exc_bind, upd_lookup, cmpV, eqV_str, fzV, evs, has_succ, t_raw_names, t_check_name, raws_ok, h, e1, e2, c, updAll_nil, updAll_cons, e0, allI, onInt_ok, onStr_ok, onList_ok, onTup_ok, onO_ok, onTab_ok, onAcc_ok, arg0_ok, arg1_ok, addV, ltV]
    · intro x hx
      simp only [List.mem_cons, List.not_mem_nil, or_false] at hx
      rcases hx with rfl | rfl | rfl <;> simp [upd_lookup]
end
end L4
end Mine
end

section
set_option Elab.async false
set_option linter.unusedSimpArgs false
set_option maxRecDepth 100000
namespace Mine
open PySem
namespace L4
open Mine
noncomputable def rangeS (lo : Int) : PySem.Str := S "a number must lie between " ++ PySem.Str.ofString (toString lo) ++ bigS
theorem rangeS_ne {lo : Int} : rangeS lo ≠ S "" := fun z => by
  have := congrArg PySem.Str.length z
  have e1 : (S "a number must lie between ").length = 26 := rfl
  have e2 : (S "").length = 0 := rfl
  unfold rangeS at this
  rw [len_app, len_app, e1, e2] at this
  omega
theorem why_out {v lo : Int} (h : v < lo ∨ v > 1000000000000000000) : whyNum v (S "") lo = rangeS lo := by
  unfold whyNum
  rw [if_pos rfl, if_pos h]; rfl
theorem why_in {v lo : Int} (h : ¬ (v < lo ∨ v > 1000000000000000000)) : whyNum v (S "") lo = S "" := by
  unfold whyNum
  rw [if_pos rfl, if_neg h]
section
variable {n : Nat} {φ : Frm} {z lo v : Int} {d : V}
theorem check_int (hlo : lo.natAbs < 2 ^ 100) (hll : (PySem.Str.ofString lo.repr).length ≤ 1000) : (recN tbl consts (n + 20)).fn "check_number" [(.int v, true), (.int lo, true)] = resOf (.int v) (whyNum v (S "") lo) := by
  have hlo' : lo.natAbs < 1267650600228229401496703205376 := hlo
  have e1 : (S "a number must lie between ").length = 26 := rfl
  have e3 : (S " and ").length = 5 := rfl
  have e4 : (S "1000000000000000000").length = 19 := rfl
  have e5 : consts "MAX_NUMBER" = some (.int 1000000000000000000) := rfl
  have e6 : PySem.Str.ofString (Int.repr 1000000000000000000) = S "1000000000000000000" := by decide +kernel
  have e7 : bigS = S " and " ++ S "1000000000000000000" := by decide +kernel
  have e8 : PySem.Str.empty.length = 0 := rfl
  have g1 : 26 + (PySem.Str.ofString lo.repr).length ≤ 1000000 := by omega
  have g2 : 26 + (PySem.Str.ofString lo.repr).length ≤ 999995 := by omega
  have g3 : 26 + ((PySem.Str.ofString lo.repr).length + 5) ≤ 999981 := by omega
  rw [show n + 20 = (n + 19) + 1 from rfl, fn_succ]
  by_cases c : v < lo ∨ v > 1000000000000000000
  · rw [why_out c, resOf_exc rangeS_ne]
    unfold rangeS
    rw [e7]
    by_cases c1 : lo ≤ v
    · have c2 : ¬ v ≤ 1000000000000000000 := by omega
      simp [fnI, t_check_number, b_check_number, has_succ, blk_nil, blk_cons, next_then, ex_succ, exI, ts_succ, tsI, ev_succ, evI, ok_bind, exc_bind, bad_bind, upd_lookup, cmpV, inV, eqV, eqD, fzV, evs, fzs, truthV, atom_none, atom_bool, atom_int, atom_str, atom_tuple, atom_list, lenV, indexV, allI, anyI, binV, appI, iterI, evIt, condI, bnd1, bndN, loopG_nil, loopG_cons, next_after, cont_after, onInt_ok, onStr_ok, onList_ok, onTup_ok, onO_ok, onTab_ok, onAcc_ok, arg0_ok, arg1_ok, addV, ltV, atV, upd, List.lookup_cons, raiseI, partsI, partI, hlo', lim, len_app, e5, e6, e1, e3, e4, e8, g1, g2, g3, nil_app, app_ass, instV, typeV, c1, c2]
    · simp [fnI, t_check_number, b_check_number, has_succ, blk_nil, blk_cons, next_then, ex_succ, exI, ts_succ, tsI, ev_succ, evI, ok_bind, exc_bind, bad_bind, upd_lookup, cmpV, inV, eqV, eqD, fzV, evs, fzs, truthV, atom_none, atom_bool, atom_int, atom_str, atom_tuple, atom_list, lenV, indexV, allI, anyI, binV, appI, iterI, evIt, condI, bnd1, bndN, loopG_nil, loopG_cons, next_after, cont_after, onInt_ok, onStr_ok, onList_ok, onTup_ok, onO_ok, onTab_ok, onAcc_ok, arg0_ok, arg1_ok, addV, ltV, atV, upd, List.lookup_cons, raiseI, partsI, partI, hlo', lim, len_app, e5, e6, e1, e3, e4, e8, g1, g2, g3, nil_app, app_ass, instV, typeV, c1]
  · rw [why_in c, resOf_ok rfl]
    have c1 : lo ≤ v := by omega
    have c2 : v ≤ 1000000000000000000 := by omega
    simp [fnI, t_check_number, b_check_number, has_succ, blk_nil, blk_cons, next_then, ex_succ, exI, ts_succ, tsI, ev_succ, evI, ok_bind, exc_bind, bad_bind, upd_lookup, cmpV, inV, eqV, eqD, fzV, evs, fzs, truthV, atom_none, atom_bool, atom_int, atom_str, atom_tuple, atom_list, lenV, indexV, allI, anyI, binV, appI, iterI, evIt, condI, bnd1, bndN, loopG_nil, loopG_cons, next_after, cont_after, onInt_ok, onStr_ok, onList_ok, onTup_ok, onO_ok, onTab_ok, onAcc_ok, arg0_ok, arg1_ok, addV, ltV, atV, upd, List.lookup_cons, e5, instV, typeV, c1, c2, freeze, ret_then]
/-- the raw numbers -/
noncomputable def rawN (z lo : Int) : List V := [.bool true, .bool false, .flt 4607182418800017408, .str (S "1"), .none, .int z, .int lo, .int (lo - 1), .int 1000000000000000000, .int 1000000000000000001]
theorem odd_number {w : Int} : ∀ d ∈ [V.bool true, .bool false, .flt 4607182418800017408, .str (S "1"), .none], (recN tbl consts (n + 20)).fn "check_number" [(d, true), (.int w, true)] = .exc (wholeS, true) :=
  all_cons (by kernel_rfl) <| all_cons (by kernel_rfl) <| all_cons (by kernel_rfl) <| all_cons (by kernel_rfl) <| all_cons (by kernel_rfl) all_nil
theorem rawN_at {j : Nat} (hj : j < 10) : ∃ d, (rawN z lo)[j]? = some d ∧ ((j ≤ 4 ∧ d ∈ [V.bool true, .bool false, .flt 4607182418800017408, .str (S "1"), .none]) ∨ (4 < j ∧ ∃ v, d = .int v)) := by
  by_cases c : j ≤ 4
  · obtain ⟨d, hd⟩ : ∃ d, [V.bool true, .bool false, .flt 4607182418800017408, .str (S "1"), .none][j]? = some d := ⟨_, List.getElem?_eq_getElem (by simp; omega)⟩
    refine ⟨d, ?_, .inl ⟨c, List.mem_of_getElem? hd⟩⟩
    show ([V.bool true, .bool false, .flt 4607182418800017408, .str (S "1"), .none] ++ [.int z, .int lo, .int (lo - 1), .int 1000000000000000000, .int 1000000000000000001])[j]? = _
    rw [List.getElem?_append_left (by simp; omega)]; exact hd
  · obtain ⟨v, hv⟩ : ∃ v, [z, lo, lo - 1, 1000000000000000000, 1000000000000000001][j - 5]? = some v := ⟨_, List.getElem?_eq_getElem (by simp; omega)⟩
    refine ⟨.int v, ?_, .inr ⟨by omega, v, rfl⟩⟩
    show ([V.bool true, .bool false, .flt 4607182418800017408, .str (S "1"), .none] ++ [z, lo, lo - 1, 1000000000000000000, 1000000000000000001].map V.int)[j]? = _
    rw [List.getElem?_append_right (by simp; omega), List.getElem?_map]
    show Option.map V.int [z, lo, lo - 1, 1000000000000000000, 1000000000000000001][j - 5]? = _
    rw [hv]; rfl
theorem gate2_ok {j : Nat} (hj : j < 10) (h1 : φ.lookup "pick" = some (.val (.int (j : Int)) true)) (h2 : φ.lookup "n" = some (.val (.int z) true)) (h3 : φ.lookup "lowest" = some (.val (.int lo) true)) (hlo : lo.natAbs < 2 ^ 100) (hll : (PySem.Str.ofString lo.repr).length ≤ 1000) :
    ∃ φ', blk (recN tbl consts (n + 35)) φ gate2 = .ok (.ret (.bool true) true, φ') := by
  obtain ⟨d, hd, hc⟩ := rawN_at (z := z) (lo := lo) hj
  have e1 : indexV (.list (rawN z lo)) (.int (j : Int)) = .ok d := idx_nat hd
  unfold rawN at e1
  have e0 : (PySem.Str.ofString "" == PySem.Str.ofString "") = true := by decide
  rcases hc with ⟨c, m⟩ | ⟨c, v, rfl⟩
  · have c1 : ¬ ((j : Nat) : Int) > 4 := by omega
    have q := odd_number (n := n + 13) (w := lo) d m
    have w0 : (PySem.Str.ofString "a number must be whole" == PySem.Str.ofString "") = false := by decide
    unfold wholeS at q
    exact ⟨_, by
      simp [gate2, blk_nil, blk_cons, next_then, ret_then, ex_succ, exI, ts_succ, tsI, ev_succ, evI, ok_bind, exc_bind, upd_lookup, cmpV, eqV_str, fzV, fzs, evs, lim, binV, has_succ, t_check_number, h1, h2, h3, e1, q, c1, w0, allI, freeze_lookup, frz, onInt_ok, onStr_ok, onList_ok, onTup_ok, onO_ok, onTab_ok, onAcc_ok, arg0_ok, arg1_ok, addV, ltV]
      rfl⟩
  · have c1 : ((j : Nat) : Int) > 4 := by omega
    have q := check_int (n := n + 13) (v := v) hlo hll
    have y : ∀ n, (recN tbl consts (n + 12)).fn "_law_number_why" [(.int v, true), (.str (PySem.Str.ofString ""), true), (.int lo, true)] = .ok (.str (whyNum v (S "") lo), true) := fun n => why_ok (by decide) hlo hll
    by_cases w : whyNum v (S "") lo = S ""
    · rw [w] at q y
      rw [resOf_ok rfl] at q
      have vv : (v == v) = true := beq_self_eq_true v
      exact ⟨_, by
        simp [gate2, blk_nil, blk_cons, next_then, ret_then, ex_succ, exI, ts_succ, tsI, ev_succ, evI, ok_bind, exc_bind, upd_lookup, cmpV, eqV, fzV, fzs, evs, lim, binV, has_succ, t_check_number, t_number_why, h1, h2, h3, e1, q, y, c1, e0, allI, anyI, typeV, vv, freeze_lookup, frz, onInt_ok, onStr_ok, onList_ok, onTup_ok, onO_ok, onTab_ok, onAcc_ok, arg0_ok, arg1_ok, addV, ltV]
        rfl⟩
    · have w' : (whyNum v (S "") lo == PySem.Str.ofString "") = false := beq_eq_false_iff_ne.mpr w
      rw [resOf_exc w] at q
      exact ⟨_, by
        simp [gate2, blk_nil, blk_cons, next_then, ret_then, ex_succ, exI, ts_succ, tsI, ev_succ, evI, ok_bind, exc_bind, upd_lookup, cmpV, eqV, fzV, fzs, evs, lim, binV, has_succ, t_check_number, t_number_why, h1, h2, h3, e1, q, y, c1, w', allI, anyI, typeV, freeze_lookup, frz, onInt_ok, onStr_ok, onList_ok, onTup_ok, onO_ok, onTab_ok, onAcc_ok, arg0_ok, arg1_ok, addV, ltV]
        rfl⟩
theorem gates_ok {i j : Nat} (hi : i < 6) (hj : j < 10) (hlo : lo.natAbs < 2 ^ 100) (hll : (PySem.Str.ofString lo.repr).length ≤ 1000) : (recN tbl consts (n + 36)).fn "_law_gates_hold" [(.int (i : Int), true), (.int (j : Int), true), (.int z, true), (.int lo, true)] = .ok (.bool true, true) := by
  obtain ⟨φ₁, a, b⟩ := gate1_ok (n := n) (φ := [("which", .val (.int (i : Int)) true), ("pick", .val (.int (j : Int)) true), ("n", .val (.int z) true), ("lowest", .val (.int lo) true)]) hi rfl
  obtain ⟨φ₂, c⟩ := gate2_ok (n := n) (φ := φ₁) hj (b _ (.head _)) (b _ (.tail _ (.head _))) (b _ (.tail _ (.tail _ (.head _)))) hlo hll
  rw [show n + 36 = (n + 35) + 1 from rfl, fn_succ]
  show Res.bind (blk _ [("which", .val (.int (i : Int)) true), ("pick", .val (.int (j : Int)) true), ("n", .val (.int z) true), ("lowest", .val (.int lo) true)] b_law_gates_hold) _ = _
  rw [gate_eq, blk_app, a, ok_bind, next_then, c]; rfl
end
end L4
end Mine
end

section
set_option Elab.async false
set_option linter.unusedSimpArgs false
set_option maxRecDepth 100000
namespace Mine
open PySem
/-! ## the last distinct keys -/
noncomputable def lstep (cap : Int) (acc : List PySem.Str) (k : PySem.Str) : List PySem.Str := if k ∉ acc ∧ (acc.length : Int) < cap then acc ++ [k] else acc
noncomputable def live (cap : Int) (ks : List PySem.Str) : List PySem.Str := ks.reverse.foldl (lstep cap) []
theorem live_aux {cap : Int} : ∀ (l : Cch) (acc : Cch), (keys l).foldl (lstep cap) (keys acc).reverse = (keys (l.foldl (hstep cap) acc)).reverse := by
  intro v0
  induction v0 with
  | nil => intro _; rfl
  | cons t l ih =>
    intro acc
    show (keys l).foldl (lstep cap) (lstep cap (keys acc).reverse t.1) = _
    rw [List.foldl_cons, ← ih]
    congr 1
    unfold lstep hstep
    have e : ((keys acc).reverse.length : Int) = (acc.length : Int) := by rw [List.length_reverse]; simp [keys]
    by_cases c : (acc.length : Int) < cap ∧ t.1 ∉ keys acc
    · rw [if_pos c, if_pos ⟨by simpa using c.2, by rw [e]; exact c.1⟩]
      show _ = (t.1 :: keys acc).reverse
      rw [List.reverse_cons]
    · rw [if_neg c, if_neg (fun z => c ⟨by rw [← e]; exact z.2, by simpa using z.1⟩)]
theorem live_held {cap : Int} (log : Cch) : live cap (keys log) = (keys (held cap log)).reverse := by
  unfold live held
  have := live_aux (cap := cap) log.reverse []
  rw [← this]
  unfold keys
  rw [List.map_reverse]; rfl
/-! ## a dict filled in order -/
section
variable {kvs : List (PySem.Str × V)} {k x : PySem.Str} {v : V}
theorem lookup_append : ∀ {a b : List (PySem.Str × V)}, (a ++ b).lookup x = (a.lookup x).or (b.lookup x) := by
  intro v0
  induction v0 with
  | nil => intro b; rfl
  | cons p a ih =>
    intro b
    rw [List.cons_append, List.lookup_cons, List.lookup_cons]
    cases x == p.1
    · exact ih
    · rfl
theorem lookup_hit : ∀ {a : List (PySem.Str × V)}, a.any (fun kv => decide (kv.1 = k)) = true → (a.map fun kv => if kv.1 = k then (kv.1, v) else kv).lookup x = if x = k then some v else a.lookup x := by
  intro v0
  induction v0 with
  | nil => intro h; cases h
  | cons p a ih =>
    intro h
    obtain ⟨p1, p2⟩ := p
    rw [List.map_cons]
    by_cases e : p1 = k
    · subst e
      rw [if_pos rfl, List.lookup_cons, List.lookup_cons]
      by_cases q : x = p1
      · subst q; simp
      · rw [if_neg q, beq_eq_false_iff_ne.mpr q]
        clear ih h
        dsimp only
        induction a with
        | nil => rfl
        | cons r a ih =>
          obtain ⟨r1, r2⟩ := r
          rw [List.map_cons]
          by_cases e : r1 = p1
          · subst e; rw [if_pos rfl, List.lookup_cons, List.lookup_cons, beq_eq_false_iff_ne.mpr q]; exact ih
          · rw [if_neg e, List.lookup_cons, List.lookup_cons]
            cases x == r1
            · exact ih
            · rfl
    · rw [if_neg e, List.lookup_cons, List.lookup_cons]
      have h' : a.any (fun kv => decide (kv.1 = k)) = true := by simpa [e] using h
      by_cases q : x = p1
      · subst q; simp [e]
      · rw [beq_eq_false_iff_ne.mpr q]; exact ih h'
theorem any_lookup : ∀ {a : List (PySem.Str × V)}, a.any (fun kv => decide (kv.1 = k)) = false → a.lookup k = none := by
  intro v0
  induction v0 with
  | nil => intro _; rfl
  | cons p a ih =>
    intro h
    rw [List.any_cons, Bool.or_eq_false_iff, decide_eq_false_iff_not] at h
    rw [List.lookup_cons, beq_eq_false_iff_ne.mpr (Ne.symm h.1)]
    exact ih h.2
theorem put_look : (dictPut kvs k v).lookup x = if x = k then some v else kvs.lookup x := by
  unfold dictPut
  by_cases c : kvs.any (fun kv => decide (kv.1 = k)) = true
  · rw [if_pos c]; exact lookup_hit c
  · rw [if_neg c, lookup_append]
    have hn := any_lookup (Bool.eq_false_iff.mpr c)
    by_cases q : x = k
    · subst q; rw [hn, if_pos rfl]; simp
    · rw [if_neg q, List.lookup_cons, beq_eq_false_iff_ne.mpr q]; simp
theorem fill_snoc {ps : List (PySem.Str × V)} : dictFill (ps ++ [(k, v)]) = dictPut (dictFill ps) k v := by
  unfold dictFill
  rw [List.foldl_append]; rfl
end
/-! ## what the laid pairs know of the cache -/
noncomputable def Knows (c : Cch) (ps : Cch) : Prop := ∀ k v, c.lookup k = some v → (dictFill (tv ps)).lookup k = some (.int v)
theorem tv_snoc {ps : Cch} {k : PySem.Str} {v : Int} : tv (ps ++ [(k, v)]) = tv ps ++ [(k, .int v)] := List.map_append
theorem look_app {a b : Cch} {x : PySem.Str} : (a ++ b).lookup x = (a.lookup x).or (b.lookup x) := by
  induction a with
  | nil => rfl
  | cons p a ih =>
    rw [List.cons_append, List.lookup_cons, List.lookup_cons]
    cases x == p.1
    · exact ih
    · rfl
theorem look_off {c : Cch} {k x : PySem.Str} : (off k c).lookup x = if x = k then none else c.lookup x := by
  by_cases e : x = k
  · subst e; rw [if_pos rfl]; exact lookup_keys.mpr (off_mem _ _)
  · rw [if_neg e]
    induction c with
    | nil => rfl
    | cons p c ih =>
      obtain ⟨p1, p2⟩ := p
      unfold off at ih ⊢
      by_cases q : p1 = k
      · subst q
        rw [List.filter_cons_of_neg (by simp), List.lookup_cons, beq_eq_false_iff_ne.mpr e]; exact ih
      · rw [List.filter_cons_of_pos (by simpa using q), List.lookup_cons, List.lookup_cons]
        cases x == p1
        · exact ih
        · rfl
theorem look_one {k x : PySem.Str} {v : Int} : ([(k, v)] : Cch).lookup x = if x = k then some v else none := by
  rw [List.lookup_cons]
  by_cases e : x = k
  · subst e; simp
  · rw [if_neg e, beq_eq_false_iff_ne.mpr e]; rfl
theorem moved_look {c : Cch} {k x : PySem.Str} {v u : Int} (h : (off k c ++ [(k, v)]).lookup x = some u) : (x = k ∧ u = v) ∨ (x ≠ k ∧ c.lookup x = some u) := by
  rw [look_app, look_off, look_one] at h
  by_cases e : x = k
  · rw [if_pos e, if_pos e] at h; simp at h; exact .inl ⟨e, h.symm⟩
  · rw [if_neg e, if_neg e] at h; simp at h; exact .inr ⟨e, h⟩
theorem snoc_look {c : Cch} {k x : PySem.Str} {v u : Int} (hk : k ∉ keys c) (h : (c ++ [(k, v)]).lookup x = some u) : (x = k ∧ u = v) ∨ (x ≠ k ∧ c.lookup x = some u) := by
  rw [← off_none hk] at h
  rcases moved_look h with z | ⟨z, w⟩
  · exact .inl z
  · exact .inr ⟨z, w⟩
section
variable {cap : Int} {c : Cch} {k x : PySem.Str} {v u : Int}
theorem laid_look (hn : (keys c).Nodup) (h : (laid cap c k v).2.lookup x = some u) : (x = k ∧ u = v) ∨ (x ≠ k ∧ c.lookup x = some u) := by
  unfold laid at h
  by_cases hk : k ∈ keys c
  · rw [if_pos hk] at h; exact moved_look h
  · rw [if_neg hk] at h
    by_cases hcap : cap ≤ (c.length : Int)
    · rw [if_pos hcap] at h
      cases c with
      | nil => exact snoc_look (c := []) hk h
      | cons p c =>
        have hk' : k ∉ keys c := fun z => hk (List.mem_cons_of_mem _ z)
        rcases snoc_look hk' h with z | ⟨z, w⟩
        · exact .inl z
        · refine .inr ⟨z, ?_⟩
          have hx : x ≠ p.1 := fun q => by
            have : p.1 ∉ keys c := (List.nodup_cons.mp hn).1
            rw [← q] at this
            rw [lookup_keys.mpr this] at w; cases w
          rw [List.lookup_cons, beq_eq_false_iff_ne.mpr hx]; exact w
    · rw [if_neg hcap] at h; exact snoc_look hk h
theorem knows_put {ps : Cch} (hn : (keys c).Nodup) (h : Knows c ps) : Knows (laid cap c k v).2 (ps ++ [(k, v)]) := by
  intro x u hu
  rw [tv_snoc, fill_snoc, put_look]
  rcases laid_look hn hu with ⟨rfl, rfl⟩ | ⟨e, w⟩
  · rw [if_pos rfl]
  · rw [if_neg e]; exact h x u w
theorem knows_get {ps : Cch} (h : Knows c ps) (hk : c.lookup k = some v) : Knows (off k c ++ [(k, v)]) ps := by
  intro x u hu
  rcases moved_look hu with ⟨rfl, rfl⟩ | ⟨_, w⟩
  · exact h _ _ hk
  · exact h x u w
/-- which keys go -/
theorem laid_gone (hn : (keys c).Nodup) : ∃ xs : List PySem.Str, (keys c).reverse.filter (fun y => y ∉ keys (laid cap c k v).2) = xs ∧ V.str (Txt.join (PySem.Str.ofString "") xs) = (laid cap c k v).1 ∧ xs.length ≤ 1 := by
  have e0 : Txt.join (PySem.Str.ofString "") [] = PySem.Str.ofString "" := by decide +kernel
  have ink : ∀ {l : Cch} {y}, y ∈ keys l → ∀ m, y ∈ keys (l ++ m) := fun hp m => by rw [keys_app]; exact List.mem_append_left _ hp
  unfold laid
  by_cases hk : k ∈ keys c
  · rw [if_pos hk]
    refine ⟨[], ?_, by rw [e0], by simp⟩
    refine List.filter_eq_nil_iff.mpr fun y hy => ?_
    simp only [decide_eq_true_eq, Decidable.not_not]
    have hy := List.mem_reverse.mp hy
    rw [keys_app, List.mem_append]
    by_cases e : y = k
    · exact .inr (by simp [keys, e])
    · exact .inl (mem_off.mpr ⟨hy, e⟩)
  · rw [if_neg hk]
    by_cases hcap : cap ≤ (c.length : Int)
    · rw [if_pos hcap]
      cases c with
      | nil => exact ⟨[], rfl, by rw [e0], by simp⟩
      | cons p c =>
        have hp : p.1 ∉ keys c := (List.nodup_cons.mp hn).1
        refine ⟨[p.1], ?_, rfl, by simp⟩
        show List.filter _ (p.1 :: keys c).reverse = _
        rw [List.reverse_cons, List.filter_append, List.filter_eq_nil_iff.mpr, List.filter_cons_of_pos]
        · rfl
        · simp only [decide_eq_true_eq]
          intro z
          rw [keys_app, List.mem_append] at z
          rcases z with z | z
          · exact hp z
          · simp only [keys, List.map_cons, List.map_nil, List.mem_singleton] at z
            exact hk (by rw [← z]; exact .head _)
        · intro y hy
          simp only [decide_eq_true_eq, Decidable.not_not]
          exact ink (List.mem_reverse.mp hy) _
    · rw [if_neg hcap]
      refine ⟨[], ?_, by rw [e0], by simp⟩
      refine List.filter_eq_nil_iff.mpr fun y hy => ?_
      simp only [decide_eq_true_eq, Decidable.not_not]
      exact ink (List.mem_reverse.mp hy) _
end
end Mine
end

section
set_option Elab.async false
set_option linter.unusedSimpArgs false
set_option maxRecDepth 100000
namespace Mine
open PySem
theorem rev_strs {ks : List PySem.Str} {f : Bool} : (ks.map V.str).reverse.map (fun d => (d, f)) = ks.reverse.map fun k => (V.str k, f) := by
  rw [← List.map_reverse, List.map_map]; rfl
theorem pairsOf_map : ∀ ps : Cch, pairsOf (ps.map pairV) = some (tv ps) := by
  intro v0
  induction v0 with
  | nil => rfl
  | cons p ps ih =>
    show (pairOf (pairV p)).bind (fun q => (pairsOf (ps.map pairV)).map (q :: ·)) = _
    rw [ih]; rfl
namespace L4
open Mine
noncomputable def lb : List IS := [.ite (.and [.cmp .notIn (.var "key") (.var "live"),
  .cmp .lt (.len (.var "live")) (.var "capacity")]) [.append "live" (.var "key")] []]
theorem t_live : tbl "_law_live" = some (["touched", "capacity"], b_law_live) := rfl
theorem t_replay : tbl "_law_replay" = some (["ops", "capacity"], b_law_replay) := rfl
section
variable {n : Nat} {cap : Int} {f f2 : Bool}
theorem loop_live : ∀ (ks : List PySem.Str) (φ : Frm) (acc : List PySem.Str), acc.length + ks.length ≤ 900 → φ.lookup "live" = some (.acc (acc.map V.str)) → φ.lookup "capacity" = some (.val (.int cap) f2) →
    ∃ φ', loopG (recN tbl consts (n+12)) (bnd1 "key") lb φ (ks.map fun k => (V.str k, f)) = .ok (.next, φ') ∧ φ'.lookup "live" = some (.acc ((ks.foldl (lstep cap) acc).map V.str)) := by
  intro v0
  induction v0 with
  | nil => intro φ acc _ h1 _; exact ⟨φ, rfl, h1⟩
  | cons k ks ih =>
    intro φ acc hl h1 h2
    have hl' : acc.length + ks.length + 1 ≤ 900 := by simp at hl; omega
    have hlim : acc.length < 1000000 := by omega
    by_cases c1 : k ∈ acc
    · have e : lstep cap acc k = acc := if_neg fun z => z.1 c1
      obtain ⟨φ', q1, q2⟩ := ih (upd "key" (.val (.str k) true) φ) acc (by omega) (by simp [upd_lookup, h1]) (by simp [upd_lookup, h2])
      refine ⟨φ', ?_, by rw [List.foldl_cons, e]; exact q2⟩
      rw [List.map_cons, ← q1]
      simp [lb, blk_nil, blk_cons, next_then, ex_succ, exI, ts_succ, tsI, ev_succ, evI, ok_bind, upd_lookup, cmpV, inV, fzV, atom_str, allI, bnd1, loopG_cons, next_after, h1, strsOf_map, any_key, c1, onInt_ok, onStr_ok, onList_ok, onTup_ok, onO_ok, onTab_ok, onAcc_ok, arg0_ok, arg1_ok, addV, ltV]
    · by_cases c2 : (acc.length : Int) < cap
      · have e : lstep cap acc k = acc ++ [k] := if_pos ⟨c1, c2⟩
        obtain ⟨φ', q1, q2⟩ := ih (upd "live" (.acc ((acc ++ [k]).map V.str)) (upd "key" (.val (.str k) true) φ)) (acc ++ [k]) (by simp; omega) (by simp [upd_lookup]) (by simp [upd_lookup, h2])
        refine ⟨φ', ?_, by rw [List.foldl_cons, e]; exact q2⟩
        rw [List.map_cons, ← q1]
        simp [lb, blk_nil, blk_cons, next_then, ex_succ, exI, appI, ts_succ, tsI, ev_succ, evI, ok_bind, upd_lookup, cmpV, inV, fzV, atom_str, allI, lenV, bnd1, loopG_cons, next_after, h1, h2, strsOf_map, any_key, c1, c2, lim, hlim, onInt_ok, onStr_ok, onList_ok, onTup_ok, onO_ok, onTab_ok, onAcc_ok, arg0_ok, arg1_ok, addV, ltV]
      · have e : lstep cap acc k = acc := if_neg fun z => c2 z.2
        obtain ⟨φ', q1, q2⟩ := ih (upd "key" (.val (.str k) true) φ) acc (by omega) (by simp [upd_lookup, h1]) (by simp [upd_lookup, h2])
        refine ⟨φ', ?_, by rw [List.foldl_cons, e]; exact q2⟩
        rw [List.map_cons, ← q1]
        simp [lb, blk_nil, blk_cons, next_then, ex_succ, exI, ts_succ, tsI, ev_succ, evI, ok_bind, upd_lookup, cmpV, inV, fzV, atom_str, allI, lenV, bnd1, loopG_cons, next_after, h1, h2, strsOf_map, any_key, c1, c2, onInt_ok, onStr_ok, onList_ok, onTup_ok, onO_ok, onTab_ok, onAcc_ok, arg0_ok, arg1_ok, addV, ltV]
theorem live_ok {ks : List PySem.Str} (hl : ks.length ≤ 900) : (recN tbl consts (n + 14)).fn "_law_live" [(.list (ks.map V.str), f), (.int cap, f2)] = .ok (.list ((live cap ks).map V.str), true) := by
  have e : b_law_live = [.newAcc "live", .for1 "key" (.rev (.var "touched")) lb, .ret (.var "live")] := rfl
  obtain ⟨φ', q1, q2⟩ := loop_live (n := n) (cap := cap) (f := f) (f2 := f2) ks.reverse [("touched", .val (.list (ks.map V.str)) f), ("capacity", .val (.int cap) f2), ("live", .acc [])] [] (by simpa using hl) rfl rfl
  rw [← rev_strs] at q1
  simp [fn_succ, fnI, t_live, e, blk_nil, blk_cons, next_then, ret_then, ex_succ, exI, ev_succ, evI, ok_bind, upd, List.lookup_cons, iterI, evIt, q1, q2, freeze_lookup, frz, live, -List.map_reverse, onInt_ok, onStr_ok, onList_ok, onTup_ok, onO_ok, onTab_ok, onAcc_ok, arg0_ok, arg1_ok, addV, ltV]
noncomputable def rb : List IS := [.assign "before" (.call "_law_live" [.var "touched",
  .var "capacity"]),
  .ite (.cmp .eq (.var "kind") (.const (.str (PySem.Str.ofString "put")))) [.append "touched" (.var "key"),
  .append "laid" (.tuple [.var "key",
  .var "value"]),
  .assign "after" (.call "_law_live" [.var "touched",
  .var "capacity"]),
  .append "gave" (.meth .join (.const (.str (PySem.Str.ofString ""))) [.comp (.var "k") "k" (.plain (.var "before")) (some (.cmp .notIn (.var "k") (.var "after")))])] [.ite (.cmp .isIn (.var "key") (.var "before")) [.append "touched" (.var "key"),
  .append "gave" (.index (.dictOf "laid") (.var "key"))] [.append "gave" (.const .none)]]]
theorem comp_gone {ψ : Frm} {K : List PySem.Str} (hk : ψ.lookup "after" = some (.val (.list (K.map V.str)) f)) : ∀ l : List PySem.Str, compI (recN tbl consts (n+6)) ψ (.var "k") "k" (some (.cmp .notIn (.var "k") (.var "after"))) (l.map fun x => (V.str x, f2)) = .ok ((l.filter fun y => y ∉ K).map V.str) := by
  intro v0
  induction v0 with
  | nil => rfl
  | cons x l ih =>
    rw [List.map_cons]
    by_cases c : x ∈ K
    · rw [compI_no (by simp [condI, ts_succ, tsI, ev_succ, evI, ok_bind, upd_lookup, cmpV, inV, hk, strsOf_map, any_key, c, onInt_ok, onStr_ok, onList_ok, onTup_ok, onO_ok, onTab_ok, onAcc_ok, arg0_ok, arg1_ok, addV, ltV]), ih, List.filter_cons_of_neg (by simpa using c)]
    · rw [compI_yes (e := .str x) (by simp [condI, ts_succ, tsI, ev_succ, evI, ok_bind, upd_lookup, cmpV, inV, hk, strsOf_map, any_key, c, onInt_ok, onStr_ok, onList_ok, onTup_ok, onO_ok, onTab_ok, onAcc_ok, arg0_ok, arg1_ok, addV, ltV]) (by simp [ev_succ, evI, upd_lookup, ok_bind, fzV, atom_str]), ih, List.filter_cons_of_pos (by simpa using c)]; rfl
end
end L4
end Mine
end

section
set_option Elab.async false
set_option linter.unusedSimpArgs false
set_option maxRecDepth 100000
namespace Mine
open PySem
noncomputable def shortC (c : Cch) : Prop := ∀ k ∈ keys c, k.length ≤ 1000
theorem mem_look {c : Cch} {x : PySem.Str} (h : x ∈ keys c) : ∃ u, c.lookup x = some u := by
  cases q : c.lookup x with
  | none => exact absurd h (lookup_keys.mp q)
  | some u => exact ⟨u, rfl⟩
theorem look_mem' {c : Cch} {x : PySem.Str} {u : Int} (h : c.lookup x = some u) : x ∈ keys c := by
  by_cases q : x ∈ keys c
  · exact q
  · rw [lookup_keys.mpr q] at h; cases h
theorem short_laid {cap : Int} {c : Cch} {k : PySem.Str} {v : Int} (hn : (keys c).Nodup) (h : shortC c) (hk : k.length ≤ 1000) : shortC (laid cap c k v).2 := by
  intro x hx
  obtain ⟨u, hu⟩ := mem_look hx
  rcases laid_look hn hu with ⟨rfl, _⟩ | ⟨_, w⟩
  · exact hk
  · exact h x (look_mem' w)
theorem laid_in {cap : Int} {c : Cch} {k : PySem.Str} {v : Int} (h : k ∈ keys c) : (laid cap c k v).2 = off k c ++ [(k, v)] := by
  unfold laid; rw [if_pos h]
theorem hold_len {cap : Int} : ∀ (l acc : Cch), (l.foldl (hstep cap) acc).length ≤ acc.length + l.length := by
  intro v0
  induction v0 with
  | nil => intro acc; exact Nat.le_refl _
  | cons t l ih =>
    intro acc
    rw [List.foldl_cons]
    have h1 := ih (hstep cap acc t)
    have h2 : (hstep cap acc t).length ≤ acc.length + 1 := by
      unfold hstep
      split
      · simp
      · omega
    rw [List.length_cons]; omega
theorem held_len {cap : Int} (log : Cch) : (keys (held cap log)).length ≤ log.length := by
  have := hold_len (cap := cap) log.reverse []
  unfold keys held
  rw [List.length_map]
  simpa using this
theorem in_rev {l : List PySem.Str} {x : PySem.Str} : (x ∈ l.reverse) = (x ∈ l) := propext List.mem_reverse
namespace L4
open Mine
/-- the replay's frame -/
structure RFrm (φ : Frm) (cap : Int) (fc : Bool) (log ps : Cch) (gave : List V) : Prop where
  tou : φ.lookup "touched" = some (.acc ((keys log).map V.str))
  lai : φ.lookup "laid" = some (.acc (ps.map pairV))
  gav : φ.lookup "gave" = some (.acc gave)
  cap : φ.lookup "capacity" = some (.val (.int cap) fc)
theorem RFrm.upd {φ : Frm} {cap : Int} {fc : Bool} {log ps : Cch} {gave : List V} (h : RFrm φ cap fc log ps gave) {x : String} {sl : Slot} (hx : x ∉ ["touched", "laid", "gave", "capacity"]) : RFrm (Mine.upd x sl φ) cap fc log ps gave := by
  simp only [List.mem_cons, List.not_mem_nil, or_false, not_or] at hx
  exact ⟨by rw [upd_lookup, if_neg (Ne.symm hx.1)]; exact h.tou, by rw [upd_lookup, if_neg (Ne.symm hx.2.1)]; exact h.lai, by rw [upd_lookup, if_neg (Ne.symm hx.2.2.1)]; exact h.gav, by rw [upd_lookup, if_neg (Ne.symm hx.2.2.2)]; exact h.cap⟩
section
variable {n : Nat} {cap : Int} {fc : Bool} {φ : Frm} {log ps : Cch} {gave : List V} {k : PySem.Str} {v : Int}
theorem turn_put (hc : 1 ≤ cap) (h : RFrm φ cap fc log ps gave) (hl : log.length ≤ 800) (hp : ps.length ≤ 800) (hg : gave.length ≤ 800) (hs : shortC (held cap log)) (h1 : φ.lookup "kind" = some (.val (.str (S "put")) true)) (h2 : φ.lookup "key" = some (.val (.str k) true)) (h3 : φ.lookup "value" = some (.val (.int v) true)) :
    ∃ φ', blk (recN tbl consts (n + 30)) φ rb = .ok (.next, φ') ∧ RFrm φ' cap fc (log ++ [(k, v)]) (ps ++ [(k, v)]) (gave ++ [(laid cap (held cap log) k v).1]) := by
  obtain ⟨hh, hn, _⟩ := held_snoc hc log k v
  obtain ⟨xs, g1, g2, g3⟩ := laid_gone (cap := cap) (k := k) (v := v) hn
  have hlk : (keys log).length ≤ 900 := by unfold keys; rw [List.length_map]; omega
  have hlk' : (keys (log ++ [(k, v)])).length ≤ 900 := by unfold keys; rw [List.length_map]; simp; omega
  have l1 : ∀ n f, (recN tbl consts (n + 14)).fn "_law_live" [(.list ((keys log).map V.str), f), (.int cap, fc)] = .ok (.list (((keys (held cap log)).reverse).map V.str), true) := fun n f => by rw [live_ok hlk, live_held]
  have l2 : ∀ n f, (recN tbl consts (n + 14)).fn "_law_live" [(.list ((keys log).map V.str ++ [.str k]), f), (.int cap, fc)] = .ok (.list (((keys (laid cap (held cap log) k v).2).reverse).map V.str), true) := fun n f => by
    have := live_ok (n := n) (cap := cap) (f := f) (f2 := fc) hlk'
    rw [live_held, hh] at this
    rw [← this]
    unfold keys; simp
  have hsum : (xs.map (fun x => x.length)).sum + xs.length * (S "").length ≤ 1000000 := by
    have e : (S "").length = 0 := rfl
    rw [e]
    match xs, g1, g3 with
    | [], _, _ => simp
    | [x], g1, _ =>
      have hx : x ∈ (keys (held cap log)).reverse := (List.mem_filter.mp (show x ∈ List.filter _ _ from by rw [g1]; exact .head _)).1
      have := hs x (List.mem_reverse.mp hx)
      simp; omega
    | x :: y :: r, _, g3 => simp at g3
  have gf : (keys (held cap log)).reverse.filter (fun y => y ∉ (keys (laid cap (held cap log) k v).2).reverse) = xs := by
    rw [← g1]; congr 1; funext y; simp
  generalize hK : (keys (held cap log)).reverse = K at l1 gf
  generalize hK' : (keys (laid cap (held cap log) k v).2).reverse = K' at l2 gf
  have q := comp_gone (n := n + 20) (ψ := vals (upd "after" (.val (.list (K'.map V.str)) true) (upd "laid" (.acc (ps.map pairV ++ [.tuple [.str k, .int v]])) (upd "touched" (.acc ((keys log).map V.str ++ [.str k])) (upd "before" (.val (.list (K.map V.str)) true) φ))))) (f := true) (f2 := true) (K := K') (by rw [vals_lookup, upd_lookup, if_pos rfl]; rfl) K
  rw [gf] at q
  have fl : (K.map V.str).map (fun d => (d, true)) = K.map fun x => (V.str x, true) := by rw [List.map_map]; rfl
  have put_eq' : (PySem.Str.ofString "put" == PySem.Str.ofString "put") = true := put_eq
  have b1 : (keys log).length < 1000000 := by omega
  have b2 : ps.length < 1000000 := by omega
  have b3 : gave.length < 1000000 := by omega
  have b4 : K.length ≤ 1000000 := by rw [← hK, List.length_reverse]; have := held_len (cap := cap) log; omega
  refine ⟨upd "gave" (.acc (gave ++ [.str (Txt.join (S "") xs)])) (upd "after" (.val (.list (K'.map V.str)) true) (upd "laid" (.acc (ps.map pairV ++ [.tuple [.str k, .int v]])) (upd "touched" (.acc ((keys log).map V.str ++ [.str k])) (upd "before" (.val (.list (K.map V.str)) true) φ)))), ?_, ?_⟩
  · simp [rb, blk_nil, blk_cons, next_then, ex_succ, exI, appI, ts_succ, tsI, ev_succ, evI, ok_bind, upd_lookup, cmpV, eqV_str, fzV, evs, atom_str, has_succ, t_live, h.tou, h.lai, h.gav, h.cap, h1, h2, h3, l1, l2, put_eq', lim, b1, b2, b3, b4, methV, It.simple, iterI, evIt, fl, q, strsOf_map, hsum, -List.map_map, onInt_ok, onStr_ok, onList_ok, onTup_ok, onO_ok, onTab_ok, onAcc_ok, arg0_ok, arg1_ok, addV, ltV]
    done
  · refine ⟨by simp [upd_lookup, keys], by simp [upd_lookup, pairV], by simp [upd_lookup, g2], by simp [upd_lookup, h.cap]⟩
theorem turn_hit (hc : 1 ≤ cap) (h : RFrm φ cap fc log ps gave) (hl : log.length ≤ 800) (hp : ps.length ≤ 800) (hg : gave.length ≤ 800) (hk : Knows (held cap log) ps) (h1 : φ.lookup "kind" = some (.val (.str (S "get")) true)) (h2 : φ.lookup "key" = some (.val (.str k) true)) (hit : (held cap log).lookup k = some v) :
    ∃ φ', blk (recN tbl consts (n + 30)) φ rb = .ok (.next, φ') ∧ RFrm φ' cap fc (log ++ [(k, v)]) ps (gave ++ [.int v]) := by
  have hlk : (keys log).length ≤ 900 := by unfold keys; rw [List.length_map]; omega
  have l1 : ∀ n f, (recN tbl consts (n + 14)).fn "_law_live" [(.list ((keys log).map V.str), f), (.int cap, fc)] = .ok (.list (((keys (held cap log)).reverse).map V.str), true) := fun n f => by rw [live_ok hlk, live_held]
  have hin : k ∈ (keys (held cap log)).reverse := List.mem_reverse.mpr (look_mem' hit)
  generalize (keys (held cap log)).reverse = K at l1 hin
  have e1 : indexV (.dict (dictFill (tv ps))) (.str k) = .ok (.int v) := by
    show onO ((dictFill (tv ps)).lookup k) Res.ok = _
    rw [hk k v hit]; rfl
  have get_ne' : (PySem.Str.ofString "get" == PySem.Str.ofString "put") = false := by decide
  have b1 : (keys log).length < 1000000 := by omega
  have b2 : (tv ps).length ≤ 1000 := by rw [tv_len]; omega
  have b3 : gave.length < 1000000 := by omega
  refine ⟨upd "gave" (.acc (gave ++ [.int v])) (upd "touched" (.acc ((keys log).map V.str ++ [.str k])) (upd "before" (.val (.list (K.map V.str)) true) φ)), ?_, ?_⟩
  · simp [rb, blk_nil, blk_cons, next_then, ex_succ, exI, appI, ts_succ, tsI, ev_succ, evI, ok_bind, upd_lookup, cmpV, eqV_str, inV, fzV, evs, atom_str, has_succ, t_live, h.tou, h.lai, h.gav, h.cap, h1, h2, l1, get_ne', lim, b1, b2, b3, strsOf_map, any_key, hin, pairsOf_map, e1, onInt_ok, onStr_ok, onList_ok, onTup_ok, onO_ok, onTab_ok, onAcc_ok, arg0_ok, arg1_ok, addV, ltV]
  · refine ⟨by simp [upd_lookup, keys], by simp [upd_lookup, h.lai], by simp [upd_lookup], by simp [upd_lookup, h.cap]⟩
theorem turn_miss (h : RFrm φ cap fc log ps gave) (hl : log.length ≤ 800) (hg : gave.length ≤ 800) (h1 : φ.lookup "kind" = some (.val (.str (S "get")) true)) (h2 : φ.lookup "key" = some (.val (.str k) true)) (miss : (held cap log).lookup k = none) :
    ∃ φ', blk (recN tbl consts (n + 30)) φ rb = .ok (.next, φ') ∧ RFrm φ' cap fc log ps (gave ++ [.none]) := by
  have hlk : (keys log).length ≤ 900 := by unfold keys; rw [List.length_map]; omega
  have l1 : ∀ n f, (recN tbl consts (n + 14)).fn "_law_live" [(.list ((keys log).map V.str), f), (.int cap, fc)] = .ok (.list (((keys (held cap log)).reverse).map V.str), true) := fun n f => by rw [live_ok hlk, live_held]
  have hin : k ∉ (keys (held cap log)).reverse := fun z => lookup_keys.mp miss (List.mem_reverse.mp z)
  generalize (keys (held cap log)).reverse = K at l1 hin
  have get_ne' : (PySem.Str.ofString "get" == PySem.Str.ofString "put") = false := by decide
  have b3 : gave.length < 1000000 := by omega
  refine ⟨upd "gave" (.acc (gave ++ [.none])) (upd "before" (.val (.list (K.map V.str)) true) φ), ?_, ?_⟩
  · simp [rb, blk_nil, blk_cons, next_then, ex_succ, exI, appI, ts_succ, tsI, ev_succ, evI, ok_bind, upd_lookup, cmpV, eqV_str, inV, fzV, evs, atom_str, has_succ, t_live, h.tou, h.lai, h.gav, h.cap, h1, h2, l1, get_ne', lim, b3, strsOf_map, any_key, hin, onInt_ok, onStr_ok, onList_ok, onTup_ok, onO_ok, onTab_ok, onAcc_ok, arg0_ok, arg1_ok, addV, ltV]
  · refine ⟨by simp [upd_lookup, h.tou], by simp [upd_lookup, h.lai], by simp [upd_lookup], by simp [upd_lookup, h.cap]⟩
theorem loop_replay (hc : 1 ≤ cap) : ∀ (ds : List Deed) (φ : Frm) (log ps : Cch) (gave : List V), RFrm φ cap fc log ps gave → log.length + ds.length ≤ 800 → ps.length + ds.length ≤ 800 → gave.length + ds.length ≤ 800 → shortC (held cap log) → Knows (held cap log) ps → (∀ d ∈ ds, d.key.length ≤ 1000) →
    ∃ (φ' : Frm) (log' ps' : Cch), loopG (recN tbl consts (n + 30)) (bndN ["kind", "key", "value"]) rb φ (ds.map fun d => (deedV d, true)) = .ok (.next, φ') ∧ RFrm φ' cap fc log' ps' (gave ++ (run cap (held cap log) ds).1) ∧ held cap log' = (run cap (held cap log) ds).2 ∧ Knows (held cap log') ps' ∧ log'.length ≤ 800 ∧ ps'.length ≤ 800 := by
  intro v0
  induction v0 with
  | nil => intro φ log ps gave h hl hp _ _ hk _; exact ⟨φ, log, ps, rfl, by simpa [run] using h, rfl, hk, by omega, by omega⟩
  | cons d ds ih =>
    intro φ log ps gave h hl hp hg hs hk hd
    rw [List.length_cons] at hl hp hg
    let kd : PySem.Str := if d.get then PySem.Str.ofString "get" else PySem.Str.ofString "put"
    let φ₁ := upd "value" (.val (.int d.val) true) (upd "key" (.val (.str d.key) true) (upd "kind" (.val (.str kd) true) φ))
    have hb : bndN ["kind", "key", "value"] (deedV d, true) φ = .ok φ₁ := rfl
    have hR : RFrm φ₁ cap fc log ps gave := ((h.upd (by decide)).upd (by decide)).upd (by decide)
    have k1 : φ₁.lookup "kind" = some (.val (.str kd) true) := by simp [φ₁, upd_lookup]
    have k2 : φ₁.lookup "key" = some (.val (.str d.key) true) := by simp [φ₁, upd_lookup]
    have k3 : φ₁.lookup "value" = some (.val (.int d.val) true) := by simp [φ₁, upd_lookup]
    have hdk := hd d (.head _)
    have hd' : ∀ x ∈ ds, x.key.length ≤ 1000 := fun x hx => hd x (.tail _ hx)
    -- one turn
    have turn : ∃ (φ' : Frm) (log' ps' : Cch), blk (recN tbl consts (n + 30)) φ₁ rb = .ok (.next, φ') ∧ RFrm φ' cap fc log' ps' (gave ++ [(stp cap (held cap log) d).1]) ∧ held cap log' = (stp cap (held cap log) d).2 ∧ Knows (held cap log') ps' ∧ log'.length ≤ log.length + 1 ∧ ps'.length ≤ ps.length + 1 ∧ shortC (held cap log') := by
      cases hgt : d.get with
      | false =>
        have e : stp cap (held cap log) d = laid cap (held cap log) d.key d.val := by unfold stp; rw [hgt]; rfl
        have ek : kd = S "put" := by simp [kd, hgt]
        obtain ⟨hh, hn, _⟩ := held_snoc hc log d.key d.val
        obtain ⟨φ', a, b⟩ := turn_put (n := n) hc hR (by omega) (by omega) (by omega) hs (ek ▸ k1) k2 k3
        refine ⟨φ', _, _, a, by rw [e]; exact b, by rw [hh, e], by rw [hh]; exact knows_put hn hk, by simp, by simp, by rw [hh]; exact short_laid hn hs hdk⟩
      | true =>
        have ek : kd = S "get" := by simp [kd, hgt]
        cases hv : (held cap log).lookup d.key with
        | none =>
          have e : stp cap (held cap log) d = (.none, held cap log) := by unfold stp; rw [hgt, if_pos rfl, hv]
          obtain ⟨φ', a, b⟩ := turn_miss (n := n) hR (by omega) (by omega) (ek ▸ k1) k2 hv
          exact ⟨φ', log, ps, a, by rw [e]; exact b, by rw [e], hk, by omega, by omega, hs⟩
        | some v =>
          have e : stp cap (held cap log) d = (.int v, off d.key (held cap log) ++ [(d.key, v)]) := by unfold stp; rw [hgt, if_pos rfl, hv]
          obtain ⟨hh, hn, _⟩ := held_snoc hc log d.key v
          rw [laid_in (look_mem' hv)] at hh
          obtain ⟨φ', a, b⟩ := turn_hit (n := n) hc hR (by omega) (by omega) (by omega) hk (ek ▸ k1) k2 hv
          refine ⟨φ', _, ps, a, by rw [e]; exact b, by rw [hh, e], by rw [hh]; exact knows_get hk hv, by simp, by omega, ?_⟩
          rw [hh, ← laid_in (cap := cap) (v := v) (look_mem' hv)]
          exact short_laid hn hs hdk
    obtain ⟨φ₂, log₂, ps₂, a1, a2, a3, a4, a5, a6, a7⟩ := turn
    obtain ⟨φ₃, log₃, ps₃, b1, b2, b3, b4, b5, b6⟩ := ih φ₂ log₂ ps₂ _ a2 (by omega) (by omega) (by simp; omega) a7 a4 hd'
    refine ⟨φ₃, log₃, ps₃, ?_, ?_, ?_, b4, b5, b6⟩
    · rw [List.map_cons, loopG_cons, hb, ok_bind, a1, ok_bind, next_after, b1]
    · rw [run_cons, ← a3]; simpa using b2
    · rw [run_cons, b3, a3]
end
end L4
end Mine
end

section
set_option Elab.async false
set_option linter.unusedSimpArgs false
set_option maxRecDepth 100000
namespace Mine
open PySem
theorem nodup_look : ∀ {c : Cch}, (keys c).Nodup → ∀ p ∈ c, c.lookup p.1 = some p.2 := by
  intro v0
  induction v0 with
  | nil => intro _ p h; cases h
  | cons q c ih =>
    intro hn p hp
    have hn' := List.nodup_cons.mp hn
    rcases List.mem_cons.mp hp with rfl | hp
    · rw [List.lookup_cons]; simp
    · have hx : p.1 ≠ q.1 := fun z => hn'.1 (List.mem_map.mpr ⟨p, hp, z⟩)
      rw [List.lookup_cons, beq_eq_false_iff_ne.mpr hx]; exact ih hn'.2 p hp
namespace L4
open Mine
section
variable {n : Nat} {cap : Int} {f : Bool} {ψ : Frm} {D : List (PySem.Str × V)}
theorem comp_known (hk : ψ.lookup "known" = some (.val (.dict D) true)) : ∀ l : Cch, (∀ p ∈ l, D.lookup p.1 = some (.int p.2)) → compI (recN tbl consts (n+6)) ψ (.tuple [.var "k", .index (.var "known") (.var "k")]) "k" none ((keys l).map fun x => (V.str x, true)) = .ok (l.map pairV) := by
  intro v0
  induction v0 with
  | nil => intro _; rfl
  | cons p l ih =>
    intro h
    have e : indexV (.dict D) (.str p.1) = .ok (.int p.2) := by
      show onO (D.lookup p.1) Res.ok = _
      rw [h p (.head _)]; rfl
    show compI _ _ _ _ _ ((V.str p.1, true) :: (keys l).map fun x => (V.str x, true)) = _
    rw [compI_yes (e := pairV p) rfl (by simp [ev_succ, evI, upd_lookup, ok_bind, evs, hk, e, fzV, lim, pairV]), ih fun x hx => h x (.tail _ hx)]; rfl
theorem replay_ok (hc : 1 ≤ cap) (ds : List Deed) (hl : ds.length ≤ 800) (hd : ∀ d ∈ ds, d.key.length ≤ 1000) : (recN tbl consts (n + 32)).fn "_law_replay" [(.list (ds.map deedV), true), (.int cap, f)] = .ok (outV cap ds, true) := by
  have e : b_law_replay = [.newAcc "touched", .newAcc "laid", .newAcc "gave", .forN ["kind", "key", "value"] (.plain (.var "ops")) rb, .assign "known" (.dictOf "laid"),
    .ret (.tuple [.var "gave", .comp (.tuple [.var "k", .index (.var "known") (.var "k")]) "k" (.rev (.call "_law_live" [.var "touched", .var "capacity"])) none])] := rfl
  obtain ⟨φ₁, log, ps, a1, a2, a3, a4, a5, a6⟩ := loop_replay (n := n) (fc := f) hc ds [("ops", .val (.list (ds.map deedV)) true), ("capacity", .val (.int cap) f), ("touched", .acc []), ("laid", .acc []), ("gave", .acc [])] [] [] [] ⟨rfl, rfl, rfl, rfl⟩ (by simpa using hl) (by simpa using hl) (by simpa using hl) (fun x hx => by cases hx) (fun x u hu => by cases hu) hd
  have a3 : held cap log = (run cap [] ds).2 := a3
  have a2 : RFrm φ₁ cap f log ps (run cap [] ds).1 := a2
  have hlk : (keys log).length ≤ 900 := by unfold keys; rw [List.length_map]; omega
  have hn : (keys (run cap [] ds).2).Nodup := run_nodup (by simp [keys])
  have l1 : ∀ n f', (recN tbl consts (n + 14)).fn "_law_live" [(.list ((keys log).map V.str), f'), (.int cap, f)] = .ok (.list (((keys (run cap [] ds).2).reverse).map V.str), true) := fun n f' => by rw [live_ok hlk, live_held, a3]
  have hsz : (keys (run cap [] ds).2).length ≤ 1000000 := by have := run_len (cap := cap) (c := []) (ds := ds); unfold keys; rw [List.length_map]; simp at this; omega
  have fl : ((keys (run cap [] ds).2).reverse.map V.str).reverse.map (fun d => (d, true)) = (keys (run cap [] ds).2).map fun x => (V.str x, true) := by rw [rev_strs, List.reverse_reverse]
  have b2 : (tv ps).length ≤ 1000 := by rw [tv_len]; omega
  rw [a3] at a4
  have q := comp_known (n := n + 22) (ψ := vals (freeze (upd "known" (.val (.dict (dictFill (tv ps))) true) φ₁))) (D := dictFill (tv ps)) (by rw [vals_lookup, freeze_lookup, upd_lookup, if_pos rfl]; rfl) (run cap [] ds).2 (fun p hp => a4 p.1 p.2 (nodup_look hn p hp))
  have df : (ds.map deedV).map (fun d => (d, true)) = ds.map fun d => (deedV d, true) := by rw [List.map_map]; rfl
  have hll : (((keys (run cap [] ds).2).reverse).map V.str).length ≤ 1000000 := by rw [List.length_map, List.length_reverse]; exact hsz
  generalize hK : (keys (run cap [] ds).2).reverse.map V.str = K at l1 fl hll
  have hll' : K.reverse.length ≤ 1000000 := by rw [List.length_reverse]; exact hll
  rw [← fl] at q
  rw [show n + 32 = (n + 31) + 1 from rfl, fn_succ]
  simp [fnI, t_replay, e, blk_nil, blk_cons, next_then, ret_then, ex_succ, exI, ev_succ, evI, ok_bind, upd, List.lookup_cons, iterI, evIt, df, a1, It.simple, has_succ, t_live, upd_lookup, freeze_lookup, frz, a2.tou, a2.lai, a2.gav, a2.cap, pairsOf_map, b2, fzV, evs, l1, hll, lim, q, outV, -List.map_map, -List.map_reverse, onInt_ok, onStr_ok, onList_ok, onTup_ok, onO_ok, onTab_ok, onAcc_ok, arg0_ok, arg1_ok, addV, ltV]
end
end L4
end Mine
end

section
set_option Elab.async false
set_option linter.unusedSimpArgs false
set_option maxRecDepth 100000
namespace Mine
open PySem
namespace L4
open Mine
theorem count_pos : ∀ q ∈ numL, whyNum q.2.1 q.2.2 1 = S "" → 1 ≤ q.2.1 := by decide +kernel
noncomputable def segB1 : List IS := [.unpack ["text", "value", "shown"] (.index (.call "_law_numbers" []) (sm 22 12)),
  .assign "due" (.call "_law_number_why" [.var "value",
  .var "shown",
  .const (.int 1)]),
  .assign "capacity" (.const (.int 2)),
  .assign "why" (.const (.str (PySem.Str.ofString ""))),
  .tryStr "capacity" (.call "parse_count" [.var "text"]) "why" "error",
  .ite (.cmp .ne (.var "why") (.var "due")) [.ret (.const (.bool false))] [],
  .ite (.and [.cmp .eq (.var "due") (.const (.str (PySem.Str.ofString ""))),
  .or [.cmp .ne (.var "capacity") (.var "value"),
  .typeIs (.var "capacity") "int" false]]) [.ret (.const (.bool false))] []]
noncomputable def segB2 : List IS := [.assign "answer" (.call "play_cache_fast" [.var "ops",
  .var "capacity"]),
  .ite (.cmp .ne (.var "answer") (.call "_law_replay" [.var "wanted",
  .var "capacity"])) [.ret (.const (.bool false))] []]
theorem lawB_eq : b_lawB = segB1 ++ segB2 := rfl
theorem t_play : tbl "play_cache_fast" = some (["ops", "capacity"], b_play_cache_fast) := rfl
section
variable {n : Nat} {φ : Frm} {sc : List V} {z : Int} {ds : List Deed}
theorem segB1_ok (h : φ.lookup "script" = some (.val (.list sc) true)) (hz : indexV (.list sc) (.int 22) = .ok (.int z)) :
    ∃ (φ' : Frm) (cap : Int), blk (recN tbl consts (n + 51)) φ segB1 = .ok (.next, φ') ∧ 1 ≤ cap ∧ φ'.lookup "capacity" = some (.val (.int cap) true) ∧ φ'.lookup "ops" = φ.lookup "ops" ∧ φ'.lookup "wanted" = φ.lookup "wanted" := by
  obtain ⟨i, hi⟩ := fmod_fin z 12 (by decide)
  have hi : z.fmod 12 = ((i.val : Nat) : Int) := hi
  obtain ⟨q, hq⟩ : ∃ q, numL[i.val]? = some q := ⟨_, List.getElem?_eq_getElem i.isLt⟩
  have mq := List.mem_of_getElem? hq
  have e2 : indexV (.list (numL.map numT)) (.int (i.val : Int)) = .ok (numT q) := idx_nat (by rw [List.getElem?_map, hq]; rfl)
  have e3 : numT q = .tuple [.str q.1, .int q.2.1, .str q.2.2] := rfl
  have m := sm_ok (n := n + 45) (i := 22) (m := 12) h hz (by decide)
  rw [hi] at m
  have gf := num_fine q mq
  simp only [numFine, Bool.and_eq_true, bne_iff_ne, decide_eq_true_eq] at gf
  have y : ∀ n, (recN tbl consts (n + 12)).fn "_law_number_why" [(.int q.2.1, true), (.str q.2.2, true), (.int 1, true)] = .ok (.str (whyNum q.2.1 q.2.2 1), true) := fun n => why_ok gf.1.1.2 (by decide) (by decide +kernel)
  have c := num_count (n := n + 22) q mq
  have e0 : (PySem.Str.ofString "" == PySem.Str.ofString "") = true := by decide
  have m1 : (recN tbl consts (n + 50)).ev φ (.index (.call "_law_numbers" []) (sm 22 12)) = .ok (numT q, true) := by
    rw [ev_succ]
    show (((recN tbl consts (n + 49)).ev φ (.call "_law_numbers" [])).bind fun u => ((recN tbl consts (n + 49)).ev φ (sm 22 12)).bind fun j => (indexV u.1 j.1).bind fun d => .ok (d, u.2)) = _
    rw [show (recN tbl consts (n + 49)).ev φ (sm 22 12) = _ from m]
    simp [ev_succ, evI, has_succ, t_numbers, evs, ok_bind, nums_ok, e2]
  rw [e3] at m1
  by_cases w : whyNum q.2.1 q.2.2 1 = S ""
  · rw [w] at c y
    rw [resOf_ok rfl] at c
    refine ⟨upd "capacity" (.val (.int q.2.1) true) (upd "why" (.val (.str (S "")) true) (upd "capacity" (.val (.int 2) true) (upd "due" (.val (.str (S "")) true) (upd "shown" (.val (.str q.2.2) true) (upd "value" (.val (.int q.2.1) true) (upd "text" (.val (.str q.1) true) φ)))))), q.2.1, ?_, count_pos q mq w, by simp [upd_lookup], by simp [upd_lookup], by simp [upd_lookup]⟩
    unfold segB1
    rw [blk_cons, ex_succ]
    simp [blk_nil, blk_cons, next_then, ret_then, ex_succ, exI, m1, ts_succ, tsI, ev_succ (n := n + 49), ev_succ (n := n + 48), ev_succ (n := n + 47), ev_succ (n := n + 46), evI, ok_bind, exc_bind, upd_lookup, cmpV, eqV, fzV, evs, has_succ, t_numbers, t_number_why, t_parse_count, y, c, e0, allI, anyI, typeV, updAll_nil, updAll_cons, onInt_ok, onStr_ok, onList_ok, onTup_ok, onO_ok, onTab_ok, onAcc_ok, arg0_ok, arg1_ok, addV, ltV]
  · have w' : (whyNum q.2.1 q.2.2 1 == PySem.Str.ofString "") = false := beq_eq_false_iff_ne.mpr w
    rw [resOf_exc w] at c
    refine ⟨upd "why" (.val (.str (whyNum q.2.1 q.2.2 1)) true) (upd "error" .gone (upd "why" (.val (.str (S "")) true) (upd "capacity" (.val (.int 2) true) (upd "due" (.val (.str (whyNum q.2.1 q.2.2 1)) true) (upd "shown" (.val (.str q.2.2) true) (upd "value" (.val (.int q.2.1) true) (upd "text" (.val (.str q.1) true) φ))))))), 2, ?_, by decide, by simp [upd_lookup], by simp [upd_lookup], by simp [upd_lookup]⟩
    unfold segB1
    rw [blk_cons, ex_succ]
    simp [blk_nil, blk_cons, next_then, ret_then, ex_succ, exI, m1, ts_succ, tsI, ev_succ (n := n + 49), ev_succ (n := n + 48), ev_succ (n := n + 47), ev_succ (n := n + 46), evI, ok_bind, exc_bind, upd_lookup, cmpV, eqV, fzV, evs, has_succ, t_numbers, t_number_why, t_parse_count, y, c, w', allI, anyI, typeV, updAll_nil, updAll_cons, onInt_ok, onStr_ok, onList_ok, onTup_ok, onO_ok, onTab_ok, onAcc_ok, arg0_ok, arg1_ok, addV, ltV]
theorem segB2_ok {cap : Int} (hc : 1 ≤ cap) (hl : ds.length ≤ 7) (hd : ∀ d ∈ ds, PyData.strOk d.key = true ∧ d.key.length ≤ 1000) (h1 : φ.lookup "capacity" = some (.val (.int cap) true)) (h2 : φ.lookup "ops" = some (.val (.list (ds.map deedV)) true)) (h3 : φ.lookup "wanted" = some (.val (.list (ds.map deedV)) true)) :
    blk (recN tbl consts (n + 51)) φ segB2 = .ok (.next, upd "answer" (.val (outV cap ds) true) φ) := by
  have p1 := play_cache_fast_ok (n := n + 27) (f := true) hc ds (by omega)
  have p2 := replay_ok (n := n + 16) (f := true) hc ds (by omega) (fun d hx => (hd d hx).2)
  have p3 : eqV (outV cap ds) (outV cap ds) = .ok true := eq_tuple (outV_nice fun d hx => (hd d hx).1)
  simp [segB2, blk_nil, blk_cons, next_then, ex_succ, exI, ts_succ, tsI, ev_succ, evI, ok_bind, upd_lookup, cmpV, fzV, evs, has_succ, t_play, t_replay, h1, h2, h3, p1, p2, p3, onInt_ok, onStr_ok, onList_ok, onTup_ok, onO_ok, onTab_ok, onAcc_ok, arg0_ok, arg1_ok, addV, ltV]
theorem none_deeds : ∀ ds : List Deed, noneV (some 2) "int" false (ds.map deedV) = .ok () := by
  intro v0
  induction v0 with
  | nil => rfl
  | cons d ds ih => exact ih
theorem none_ans : ∀ as : List V, (∀ a ∈ as, okA a) → noneV none "bool" true as = .ok () := by
  intro v0
  induction v0 with
  | nil => intro _; rfl
  | cons a as ih =>
    intro h
    have i1 := ih fun x hx => h x (.tail _ hx)
    rcases h a (.head _) with rfl | ⟨i, rfl⟩ | ⟨x, rfl, _⟩ <;> exact i1
theorem guard1_ok (h : φ.lookup "ops" = some (.val (.list (ds.map deedV)) true)) : (recN tbl consts (n + 51)).ex φ g_law1 = .ok (.next, φ) := by
  simp [g_law1, ex_succ, exI, evIt, h, ok_bind, none_deeds, onInt_ok, onStr_ok, onList_ok, onTup_ok, onO_ok, onTab_ok, onAcc_ok, arg0_ok, arg1_ok, addV, ltV]
theorem guard2_ok {cap : Int} (hd : ∀ d ∈ ds, PyData.strOk d.key = true ∧ d.key.length ≤ 1000) (h : φ.lookup "answer" = some (.val (outV cap ds) true)) : (recN tbl consts (n + 51)).ex φ g_law2 = .ok (.next, φ) := by
  have e : indexV (outV cap ds) (.int 0) = .ok (.list (run cap [] ds).1) := rfl
  have q := none_ans (run cap [] ds).1 (run_okC (cap := cap) (c := []) (ds := ds) (fun x hx => by simp [keys] at hx) fun d hx => (hd d hx).1).2
  simp [g_law2, ex_succ, exI, evIt, ev_succ, evI, h, ok_bind, e, q, onInt_ok, onStr_ok, onList_ok, onTup_ok, onO_ok, onTab_ok, onAcc_ok, arg0_ok, arg1_ok, addV, ltV]
theorem segC_ok (hd : ∀ d ∈ ds, PyData.strOk d.key = true ∧ d.key.length ≤ 1000) (h2 : φ.lookup "ops" = some (.val (.list (ds.map deedV)) true)) (h3 : φ.lookup "wanted" = some (.val (.list (ds.map deedV)) true)) : blk (recN tbl consts (n + 51)) φ b_lawC = .ok (.ret (.bool true) true, φ) := by
  have q := deeds_eq hd
  simp [b_lawC, blk_nil, blk_cons, next_then, ret_then, ex_succ, exI, ts_succ, tsI, ev_succ, evI, ok_bind, cmpV, h2, h3, q, onInt_ok, onStr_ok, onList_ok, onTup_ok, onO_ok, onTab_ok, onAcc_ok, arg0_ok, arg1_ok, addV, ltV]
noncomputable def lawA0 : IS := .ite (.cmp .lt (.len (.var "script")) (.const (.int 23))) [.ret (.const (.bool true))] []
noncomputable def lawA1 : IS := .ite (.not (.tt (.call "_law_gates_hold" [sm 0 6, sm 1 10, sx 2, .bin .sub (sm 3 5) (.const (.int 2))]))) [.ret (.const (.bool false))] []
theorem lawA_eq : b_lawA = lawA0 :: lawA1 :: (segL ++ segR) := rfl
theorem lawA1_ok {z0 z1 z2 z3 : Int} (h : φ.lookup "script" = some (.val (.list sc) true)) (i0 : indexV (.list sc) (.int 0) = .ok (.int z0)) (i1 : indexV (.list sc) (.int 1) = .ok (.int z1)) (i2 : indexV (.list sc) (.int 2) = .ok (.int z2)) (i3 : indexV (.list sc) (.int 3) = .ok (.int z3)) :
    (recN tbl consts (n + 51)).ex φ lawA1 = .ok (.next, φ) := by
  obtain ⟨i, hi⟩ := fmod_fin z0 6 (by decide)
  obtain ⟨j, hj⟩ := fmod_fin z1 10 (by decide)
  obtain ⟨b, hb⟩ := fmod_fin z3 5 (by decide)
  have hi : z0.fmod 6 = ((i.val : Nat) : Int) := hi
  have hj : z1.fmod 10 = ((j.val : Nat) : Int) := hj
  have hb : z3.fmod 5 = ((b.val : Nat) : Int) := hb
  obtain ⟨q, hq, e5⟩ := val_at b
  obtain ⟨tq, bq, lq⟩ := val_text q hq
  have g := gates_ok (n := n + 11) (z := z2) (lo := q.1) i.isLt j.isLt bq (by rw [tq]; omega)
  have m0 := sm_ok (n := n + 43) (i := 0) (m := 6) h i0 (by decide)
  have m1 := sm_ok (n := n + 43) (i := 1) (m := 10) h i1 (by decide)
  have m2 := sx_ok (n := n + 44) (i := 2) h i2
  have m3 := sm_ok (n := n + 42) (i := 3) (m := 5) h i3 (by decide)
  rw [hi] at m0
  rw [hj] at m1
  rw [hb] at m3
  have m4 : (recN tbl consts (n + 47)).ev φ (.bin .sub (sm 3 5) (.const (.int 2))) = .ok (.int q.1, true) := by
    rw [ev_succ]
    simp [evI, show (recN tbl consts (n + 46)).ev φ (sm 3 5) = _ from m3, ev_succ (n := n + 45), ok_bind, binV, e5, onInt_ok, onStr_ok, onList_ok, onTup_ok, onO_ok, onTab_ok, onAcc_ok, arg0_ok, arg1_ok, addV, ltV]
  simp [lawA1, ex_succ, exI, ts_succ, tsI, ev_succ (n := n + 47), evI, evs, has_succ, t_gates, m0, m1, m2, m4, g, truthV, ok_bind, blk_nil]
/-- the law's run answers True, whatever the script -/
theorem law_run (zs : List Int) : ∃ φ', blk (recN tbl consts (n + 51)) [("script", .val (.list (zs.map V.int)) true)] (b_lawA ++ g_law1 :: (b_lawB ++ g_law2 :: b_lawC)) = .ok (.ret (.bool true) true, φ') := by
  have hsc : ([("script", .val (.list (zs.map V.int)) true)] : Frm).lookup "script" = some (.val (.list (zs.map V.int)) true) := rfl
  generalize ([("script", .val (.list (zs.map V.int)) true)] : Frm) = φ at hsc
  rw [lawA_eq, List.cons_append, blk_cons]
  by_cases hl : zs.length < 23
  · have hl' : (zs.length : Int) < 23 := by omega
    have e : (recN tbl consts (n + 51)).ex φ lawA0 = .ok (.ret (.bool true) true, φ) := by
      simp [lawA0, ex_succ, exI, ts_succ, tsI, ev_succ, evI, ok_bind, hsc, lenV, cmpV, hl', blk_cons, blk_nil, ret_then, onInt_ok, onStr_ok, onList_ok, onTup_ok, onO_ok, onTab_ok, onAcc_ok, arg0_ok, arg1_ok, addV, ltV]
    rw [e, ok_bind, ret_then]; exact ⟨_, rfl⟩
  · have hl' : ¬ (zs.length : Int) < 23 := by omega
    have e : (recN tbl consts (n + 51)).ex φ lawA0 = .ok (.next, φ) := by
      simp [lawA0, ex_succ, exI, ts_succ, tsI, ev_succ, evI, ok_bind, hsc, lenV, cmpV, hl', blk_cons, blk_nil, ret_then, onInt_ok, onStr_ok, onList_ok, onTup_ok, onO_ok, onTab_ok, onAcc_ok, arg0_ok, arg1_ok, addV, ltV]
    have hs : ∀ i : Nat, i < 23 → indexV (.list (zs.map V.int)) (.int (i : Int)) = .ok (.int (zs.getD i 0)) := by
      intro i hi
      have : zs[i]? = some (zs.getD i 0) := by
        rw [List.getD_eq_getElem?_getD]
        rw [List.getElem?_eq_getElem (by omega)]; rfl
      exact idx_nat (by rw [List.getElem?_map, this]; rfl)
    rw [e, ok_bind, next_then, List.cons_append, blk_cons, lawA1_ok hsc (hs 0 (by decide)) (hs 1 (by decide)) (hs 2 (by decide)) (hs 3 (by decide)), ok_bind, next_then, List.append_assoc, blk_app]
    obtain ⟨φ₁, ls, a1, a2, a3, a4⟩ := segL_ok (n := n + 6) (s := fun i => zs.getD i 0) hsc hs
    rw [show blk (recN tbl consts (n + 51)) φ segL = _ from a1, ok_bind, next_then, blk_app]
    obtain ⟨φ₂, ds, b1, b2, b3, b4, b5, b6⟩ := segR_ok (n := n + 6) a3 a4
    rw [show blk (recN tbl consts (n + 51)) φ₁ segR = _ from b1, ok_bind, next_then, blk_cons, guard1_ok b3, ok_bind, next_then, lawB_eq, List.append_assoc, blk_app]
    obtain ⟨φ₃, cap, c1, c2, c3, c4, c5⟩ := segB1_ok (n := n) (φ := φ₂) (by rw [b2]; exact a2) (hs 22 (by decide))
    rw [c1, ok_bind, next_then, blk_app, segB2_ok c2 b5 b6 c3 (by rw [c4]; exact b3) (by rw [c5]; exact b4), ok_bind, next_then, blk_cons, guard2_ok b6 (cap := cap) (by rw [upd_lookup, if_pos rfl]), ok_bind, next_then,
      segC_ok b6 (by rw [upd_lookup, if_neg (by decide), c4]; exact b3) (by rw [upd_lookup, if_neg (by decide), c5]; exact b4)]
    exact ⟨_, rfl⟩
end
end L4
end Mine
end

section
set_option Elab.async false
set_option maxRecDepth 100000
namespace Mine
open PySem PySem.W PySem.Calls PyProof.Rows
/-- parameters and arguments, told by functions -/
noncomputable def parsOf (f : Nat → Option PySem.Expr × Pos) : List String → List Arg
  | [] => []
  | p :: ps => ⟨nm p, (f 0).1, (f 0).2⟩ :: parsOf (fun i => f (i + 1)) ps
noncomputable def valsOf (g : Nat → Value) : List String → List Value
  | [] => []
  | _ :: ps => g 0 :: valsOf (fun i => g (i + 1)) ps
theorem pars_ex {ps : List String} : ∀ {as : List Arg}, as.map (·.arg) = ps.map nm → ∃ f, as = parsOf f ps := by
  induction ps with
  | nil => intro as h; exact ⟨fun _ => (none, default), List.map_eq_nil_iff.mp h⟩
  | cons p ps ih =>
    intro as h
    cases as with
    | nil => cases h
    | cons a as =>
      obtain ⟨h1, h2⟩ := List.cons.inj h
      obtain ⟨f, rfl⟩ := ih h2
      obtain ⟨y, n, q⟩ := a
      cases h1
      exact ⟨fun i => Nat.casesOn i (n, q) f, rfl⟩
theorem vals_ex {ps : List String} : ∀ {vs : List Value}, vs.length = ps.length → ∃ g, vs = valsOf g ps := by
  induction ps with
  | nil => intro vs h; exact ⟨fun _ => .none, List.length_eq_zero_iff.mp h⟩
  | cons p ps ih =>
    intro vs h
    cases vs with
    | nil => cases h
    | cons v vs =>
      obtain ⟨g, rfl⟩ := ih (Nat.succ.inj h)
      exact ⟨fun i => Nat.casesOn i v g, rfl⟩
noncomputable def bindF (ps : List String) : Prop := ∀ (name : PySem.Str) (f : Nat → Option PySem.Expr × Pos) (body : List Stmt) (scope : Scope) (pm code doc : Value) (g : Nat → Value), bindArgs (docDef name ⟨[], parsOf f ps, none, [], [], none, []⟩ body scope pm code doc) ⟨valsOf g ps, []⟩ = pure ((ps.map nm).zip (valsOf g ps))
theorem bind_of {ps : List String} (h : bindF ps) : bindOk ps := by
  intro name args body scope pm code doc vals h0 l0
  obtain ⟨f, rfl⟩ := pars_ex h0
  obtain ⟨g, rfl⟩ := vals_ex l0
  exact h name f body scope pm code doc g
namespace L4
open Mine
noncomputable def sigs : List (List String) := [["text"], ["value", "lowest"], ["text", "lowest"], ["cache", "key"], ["cache", "key", "value", "capacity"], ["ops", "capacity"], [], ["value", "shown", "lowest"], ["kind", "x"], ["kind", "place", "number"], ["lines"], ["touched", "capacity"], ["which", "pick", "n", "lowest"], ["script"]]
theorem sigs_ok : ∀ ps ∈ sigs, bindF ps := by
  unfold sigs
  exact List.forall_mem_cons.mpr ⟨fun _ _ _ _ _ _ _ _ => rfl, List.forall_mem_cons.mpr ⟨fun _ _ _ _ _ _ _ _ => rfl, List.forall_mem_cons.mpr ⟨fun _ _ _ _ _ _ _ _ => rfl, List.forall_mem_cons.mpr ⟨fun _ _ _ _ _ _ _ _ => rfl, List.forall_mem_cons.mpr ⟨fun _ _ _ _ _ _ _ _ => rfl, List.forall_mem_cons.mpr ⟨fun _ _ _ _ _ _ _ _ => rfl, List.forall_mem_cons.mpr ⟨fun _ _ _ _ _ _ _ _ => rfl, List.forall_mem_cons.mpr ⟨fun _ _ _ _ _ _ _ _ => rfl, List.forall_mem_cons.mpr ⟨fun _ _ _ _ _ _ _ _ => rfl, List.forall_mem_cons.mpr ⟨fun _ _ _ _ _ _ _ _ => rfl, List.forall_mem_cons.mpr ⟨fun _ _ _ _ _ _ _ _ => rfl, List.forall_mem_cons.mpr ⟨fun _ _ _ _ _ _ _ _ => rfl, List.forall_mem_cons.mpr ⟨fun _ _ _ _ _ _ _ _ => rfl, List.forall_mem_cons.mpr ⟨fun _ _ _ _ _ _ _ _ => rfl, fun _ h => nomatch h⟩⟩⟩⟩⟩⟩⟩⟩⟩⟩⟩⟩⟩⟩
theorem tbl_mem {f : String} {ps : List String} {body : List IS} (h : tbl f = some (ps, body)) : (f, ps, body) ∈ tblL ∧ bindOk ps := by
  have hm : (f, ps, body) ∈ tblL := look_mem h
  exact ⟨hm, bind_of (sigs_ok ps (List.contains_iff_mem.mp (List.all_eq_true.mp (show (tblL.all fun q => sigs.contains q.2.1) = true from by kernel_rfl) _ hm)))⟩
end L4
end Mine
end

open PySem PySem.W PyProof.Rows
set_option Elab.async false
set_option maxRecDepth 100000
set_option maxHeartbeats 8000000
namespace Mine.L4
noncomputable def keepB : Stmt → Bool
  | .Assign [.Name n _] _ _ => !(n == "__name__")
  | _ => true
noncomputable def view : Program := { PySem.Challenge.pw_sx_zstockroom_4 with main := { PySem.Challenge.pw_sx_zstockroom_4.main with body := PySem.Challenge.pw_sx_zstockroom_4.main.body.filter keepB } }
noncomputable def lv : List (PySem.Str × WData) := [(PySem.Str.ofString "MAX_NUMBER", .int 1000000000000000000)]
noncomputable def dRec : DefRec := match defOf view (PySem.Str.ofString "law") with
  | some x => x.1
  | none => ⟨PySem.Str.ofString "", ⟨[], [], none, [], [], none, []⟩, [], { kind := .function, names := [], isGenerator := false, isCoroutine := false }, ⟨0, 0, 0, 0⟩⟩
noncomputable def nth (n : Nat) : Stmt := match dRec.body.drop n with
  | s :: _ => s
  | [] => .Pass ⟨0, 0, 0, 0⟩
noncomputable def nA : Nat := b_lawA.length
noncomputable def nB : Nat := b_lawB.length
noncomputable def sA : List Stmt := dRec.body.take nA
noncomputable def sB : List Stmt := (dRec.body.drop (nA + 1)).take nB
noncomputable def sC : List Stmt := dRec.body.drop (nA + (nB + 2))
theorem said0 : PySem.Challenge.rw_sx_zstockroom_4.row.wellSaid = true := by
  unfold OpenRow.wellSaid
  repeat (refine look_both ?_ (by kernel_rfl))
  kernel_rfl
theorem said : PySem.Challenge.rw_sx_zstockroom_4.wellSaid = true := by
  unfold OpenLaw.wellSaid
  iterate 18 (refine look_both ?_ (by kernel_rfl))
  exact said0
end Mine.L4
set_option maxRecDepth 100000 in
set_option maxHeartbeats 8000000 in
theorem PySem.Challenge.cw_sx_zstockroom_4_holds : PySem.Challenge.rw_sx_zstockroom_4.Holds := by
  w_on
  refine holds_law Mine.L4.said fun said => ?_
  refine holds_open (q := Mine.L4.view) (loose := [PySem.Str.ofString "MAX_NUMBER"]) (Xt := fun s => xlAt Mine.L4.view Mine.L4.lv s && recOk (RowW.records (OpenRow.toRowW PySem.Challenge.rw_sx_zstockroom_4.row)) s) (XP := XL Mine.L4.view Mine.L4.lv) (Yf := Hook.obs Hook.none) (Ya := Hook.val Hook.none) (YP := Hook.says Hook.none) (d := Mine.L4.dRec) (kwd := []) (N := 1718) ?hl (Hook.of Hook.none) (Hook.keeps Hook.none) (fun s e => xl_of s (Bool.and_eq_true_iff.mp e).1) XL.keeps (by kernel_rfl) (by kernel_rfl) (by kernel_rfl) (fun s e => recFacts_of (Bool.and_eq_true_iff.mp e).2) (by rfl) (by assumption) (by decide +kernel) ⟨rfl, rfl, rfl, rfl, rfl, by decide +kernel⟩ ?hw ?hc
  case hl => intro w; kernel_rfl
  case hw => exact ⟨[WData.list []], by decide +kernel, by decide +kernel⟩
  case hc =>
    intro w s₀ s₁ mg mb G Y fa o pm cd doc dV kV ho hd hcd hD hmg hg args vals as hpre hlay hrd hwl hlo
    have V := G.X.2
    have T := G.T
    have W := G.W
    clear hd hcd hD Y ho
    have hmg : mg (PySem.Str.ofString "law") = some (.ref fa) := by
      rw [show Mine.L4.dRec.name = PySem.Str.ofString "law" from by kernel_rfl] at hmg
      exact hmg
    wrow_args hpre hlay hrd hwl hlo
    rename_i zs _ _ _ _ _ _ _ L vs _ hL _ _ _ hI _ hlen _
    obtain ⟨φ', hrun⟩ := Mine.L4.law_run (n := 0) zs
    refine Mine.law_fin4 (tbl := Mine.L4.tbl) (consts := Mine.L4.consts) (d := Mine.L4.dRec) (sA := Mine.L4.sA) (sB := Mine.L4.sB) (sC := Mine.L4.sC) (s1 := Mine.L4.nth Mine.L4.nA) (s2 := Mine.L4.nth (Mine.L4.nA + (Mine.L4.nB + 1))) (iA := Mine.L4.b_lawA) (iB := Mine.L4.b_lawB) (iC := Mine.L4.b_lawC) T W V (fun f ps body h => ⟨(Mine.L4.tbl_mem h).2, List.all_eq_true.mp (show (Mine.L4.tblL.all fun q => Mine.defB Mine.L4.view q.1 q.2.1 q.2.2) = true from by kernel_rfl) _ (Mine.L4.tbl_mem h).1, List.map_inj_left.mp (show (Mine.L4.tblL.map fun q => Mine.zipW (Mine.toS 60) q.2.2 (Mine.bodyOf Mine.L4.view q.1)) = Mine.L4.tblL.map (fun q => Mine.bodyOf Mine.L4.view q.1) from by kernel_rfl) _ (Mine.L4.tbl_mem h).1⟩) (by kernel_rfl) (fun x d h => ?hcon) (T.free _ (by decide +kernel) (by decide +kernel) (by decide +kernel) (by decide +kernel) (by decide +kernel))
      (by kernel_rfl) (by kernel_rfl) (by kernel_rfl) (Mine.bind_of (Mine.L4.sigs_ok _ (by decide +kernel))) (by kernel_rfl) (by kernel_rfl)
      (by kernel_rfl) (by kernel_rfl) (by kernel_rfl) (by kernel_rfl) (by kernel_rfl) (by kernel_rfl)
      (by kernel_rfl) (by kernel_rfl) (by kernel_rfl) (by kernel_rfl) (fun a => by kernel_rfl) hg hmg hL hI (by omega) hrun ?fin
    case hcon =>
      have q : ∀ c ∈ Mine.L4.conL, Mine.conB Mine.L4.view Mine.L4.lv c.1 = some c.2 := by
        unfold Mine.L4.conL
        exact List.forall_mem_cons.mpr ⟨by kernel_rfl, List.forall_mem_cons.mpr ⟨by kernel_rfl, List.forall_mem_cons.mpr ⟨by kernel_rfl, List.forall_mem_cons.mpr ⟨by kernel_rfl, fun _ h => nomatch h⟩⟩⟩⟩
      exact q _ (Mine.look_mem h)
    case fin =>
      intro s' k os g
      refine ⟨.inl ⟨.bool true, .bool true, [], rfl, fun _ => rfl, .bool true, ?_, fun _ => ⟨List.nodup_nil, fun a ha => nomatch ha⟩⟩, k, os, g⟩
      wrow_post
