/- A machine of values for loaded Go functions, sound for the calculus of calls; part 4; no conditions. -/
import Derived.Test.YtcpbpjanigljcaaGreatDoorMc
import Derived.Lib.TrimByte
import Derived.Lib.AtoiAllCases
import Derived.Lib.SplitLaws
import Derived.Lib.Join
import Derived.Lib.IndexMore
import Derived.HandedShaped
import Derived.Lib.Strings
import Derived.Lib.Slices
import Derived.Lib.Walk
import Derived.Stop.LaidErr
set_option linter.unusedSectionVars false
set_option linter.unusedVariables false
set_option linter.unusedSimpArgs false
namespace M
open Go
def maxI : Nat := 9223372036854775807
def wS (s : Str) : Nat := s.length
def wO {α : Type} (_ : α) : Nat := 0
def wL {α : Type} (w : α → Nat) (l : List α) : Nat := l.length + (l.map w).sum
theorem wL_mem {α : Type} {w : α → Nat} : ∀ {l : List α} {a : α}, a ∈ l → w a ≤ wL w l
  | b :: l, a, h => by
    rcases List.mem_cons.1 h with rfl | h
    · simp [wL]; omega
    · have := wL_mem (w := w) h
      simp [wL] at this ⊢; omega
theorem wL_len {α : Type} {w : α → Nat} (l : List α) : l.length ≤ wL w l := by unfold wL; omega
def subW (n : Int) (w : Nat) : Int := if (w : Int) ≤ n then n - w else -1
theorem subW_or (n : Int) (w : Nat) : ((w : Int) ≤ n ∧ subW n w = n - w) ∨ (n < (w : Int) ∧ subW n w = -1) := by
  unfold subW
  split
  · exact .inl ⟨by assumption, rfl⟩
  · exact .inr ⟨by omega, rfl⟩
theorem subW_le (w : Nat) (n : Int) : subW n w ≤ n ∨ subW n w < 0 := by have := subW_or n w; omega
theorem szL_subW {α : Type} (w : α → Nat) : ∀ (l : List α) (n : Int), 0 ≤ n → szL (fun b n => subW n (w b)) l n = subW n (l.map w).sum
  | [], n, h => by simp [szL, subW, h]
  | b :: l, n, h => by
    simp only [szL, List.map_cons, List.sum_cons]
    rcases subW_or n (w b) with ⟨h1, h2⟩ | ⟨h1, h2⟩
    · rw [if_neg (by omega), szL_subW w l _ (by omega), h2]
      rcases subW_or (n - w b) (l.map w).sum with ⟨h3, h4⟩ | ⟨h3, h4⟩ <;> rcases subW_or n (w b + (l.map w).sum) with ⟨h5, h6⟩ | ⟨h5, h6⟩ <;> omega
    · rw [if_pos (by omega)]
      rcases subW_or n (w b + (l.map w).sum) with ⟨h5, h6⟩ | ⟨h5, h6⟩ <;> omega
def bI (n : Int) : Prop := -9223372036854775808 ≤ n ∧ n ≤ 9223372036854775807
def bS (s : Str) : Prop := s.length ≤ 9223372036854775807
def bB (_ : Bool) : Prop := True
def bL {α : Type} (b : α → Prop) (l : List α) : Prop := l.length ≤ 9223372036854775807 ∧ ∀ a ∈ l, b a
@[simp] def eI (n : Int) : List X := [.int .i64 n]
@[simp] theorem mdLL_eI (m : Md) (l : List Int) : X.mdLL m (l.map eI) = l.map eI := by induction l <;> simp_all [X.mdLL, X.mdL, X.md]
@[simp] theorem clean_eI (l : List Int) : X.clean.cleanLL (l.map eI) = true := by induction l <;> simp_all [X.clean.cleanLL, X.clean.cleanL, X.clean]
theorem confL_nil {r : List X} (h : ConfL [] r) : r = [] := h.nil

structure Fld where
  name : Str
  value : Str
  deriving DecidableEq
@[simp] def eFld (a : Fld) : List X := [.str ⟨(a.name).toArray⟩, .str ⟨(a.value).toArray⟩]
@[simp] theorem mdLL_eFld (m : Md) (l : List Fld) : X.mdLL m (l.map eFld) = l.map eFld := by induction l <;> simp_all [X.mdLL, X.mdL, X.md]
@[simp] theorem clean_eFld (l : List Fld) : X.clean.cleanLL (l.map eFld) = true := by induction l <;> simp_all [X.clean.cleanLL, X.clean.cleanL, X.clean]
def wFld (a : Fld) : Nat := a.name.length + a.value.length
structure bFld (x : Fld) : Prop where
  k_name : bS x.name
  k_value : bS x.value
theorem dec_Fld (a b : Fld) : decide (a = b) = (decide (a.name = b.name) && decide (a.value = b.value)) := by
  cases a; cases b; simp [Bool.and_assoc]
structure Rsp where
  status : Int
  fields : List Fld
  body : Str
  deriving DecidableEq
@[simp] def eRsp (m : Md) (a : Rsp) : List X := [.int .i64 a.status, .row m 2 ((a.fields).map eFld), .str ⟨(a.body).toArray⟩]
@[simp] theorem mdLL_eRsp (m m' : Md) (l : List Rsp) : X.mdLL m (l.map (eRsp m')) = l.map (eRsp m) := by induction l <;> simp_all [X.mdLL, X.mdL, X.md]
@[simp] theorem clean_eRsp (l : List Rsp) : X.clean.cleanLL (l.map (eRsp .own)) = true := by induction l <;> simp_all [X.clean.cleanLL, X.clean.cleanL, X.clean]
@[simp] theorem cleans_eRsp (l : List Rsp) : X.clean.cleanLL (l.map (eRsp .sl)) = true := by induction l <;> simp_all [X.clean.cleanLL, X.clean.cleanL, X.clean]
def wRsp (a : Rsp) : Nat := wL wFld a.fields + a.body.length
structure bRsp (x : Rsp) : Prop where
  k_status : bI x.status
  k_fields : (bL bFld) x.fields
  k_body : bS x.body
theorem dec_Rsp (a b : Rsp) : decide (a = b) = (decide (a.status = b.status) && decide (a.fields = b.fields) && decide (a.body = b.body)) := by
  cases a; cases b; simp [Bool.and_assoc]
structure Rq where
  method : Int
  path : Str
  fields : List Fld
  body : Str
  deriving DecidableEq
@[simp] def eRq (m : Md) (a : Rq) : List X := [.int .i64 a.method, .str ⟨(a.path).toArray⟩, .row m 2 ((a.fields).map eFld), .str ⟨(a.body).toArray⟩]
@[simp] theorem mdLL_eRq (m m' : Md) (l : List Rq) : X.mdLL m (l.map (eRq m')) = l.map (eRq m) := by induction l <;> simp_all [X.mdLL, X.mdL, X.md]
@[simp] theorem clean_eRq (l : List Rq) : X.clean.cleanLL (l.map (eRq .own)) = true := by induction l <;> simp_all [X.clean.cleanLL, X.clean.cleanL, X.clean]
@[simp] theorem cleans_eRq (l : List Rq) : X.clean.cleanLL (l.map (eRq .sl)) = true := by induction l <;> simp_all [X.clean.cleanLL, X.clean.cleanL, X.clean]
def wRq (a : Rq) : Nat := a.path.length + wL wFld a.fields + a.body.length
structure bRq (x : Rq) : Prop where
  k_method : bI x.method
  k_path : bS x.path
  k_fields : (bL bFld) x.fields
  k_body : bS x.body
theorem dec_Rq (a b : Rq) : decide (a = b) = (decide (a.method = b.method) && decide (a.path = b.path) && decide (a.fields = b.fields) && decide (a.body = b.body)) := by
  cases a; cases b; simp [Bool.and_assoc]
structure Ob where
  path : Str
  names : List Str
  values : List Str
  resp : Rsp
  t : Int
  deriving DecidableEq
@[simp] def eOb (m : Md) (a : Ob) : List X := [.str ⟨(a.path).toArray⟩, .row m 1 ((a.names).map eS), .row m 1 ((a.values).map eS), .int .i64 a.resp.status, .row m 2 ((a.resp.fields).map eFld), .str ⟨(a.resp.body).toArray⟩, .int .i64 a.t]
@[simp] theorem mdLL_eOb (m m' : Md) (l : List Ob) : X.mdLL m (l.map (eOb m')) = l.map (eOb m) := by induction l <;> simp_all [X.mdLL, X.mdL, X.md]
@[simp] theorem clean_eOb (l : List Ob) : X.clean.cleanLL (l.map (eOb .own)) = true := by induction l <;> simp_all [X.clean.cleanLL, X.clean.cleanL, X.clean]
@[simp] theorem cleans_eOb (l : List Ob) : X.clean.cleanLL (l.map (eOb .sl)) = true := by induction l <;> simp_all [X.clean.cleanLL, X.clean.cleanL, X.clean]
def wOb (a : Ob) : Nat := a.path.length + wL wS a.names + wL wS a.values + wRsp a.resp
structure bOb (x : Ob) : Prop where
  k_path : bS x.path
  k_names : (bL bS) x.names
  k_values : (bL bS) x.values
  k_resp : bRsp x.resp
  k_t : bI x.t
theorem dec_Ob (a b : Ob) : decide (a = b) = (decide (a.path = b.path) && decide (a.names = b.names) && decide (a.values = b.values) && decide (a.resp = b.resp) && decide (a.t = b.t)) := by
  cases a; cases b; simp [Bool.and_assoc]
structure Kp where
  obj : Ob
  at_ : Int
  seq : Int
  deriving DecidableEq
@[simp] def eKp (m : Md) (a : Kp) : List X := [.str ⟨(a.obj.path).toArray⟩, .row m 1 ((a.obj.names).map eS), .row m 1 ((a.obj.values).map eS), .int .i64 a.obj.resp.status, .row m 2 ((a.obj.resp.fields).map eFld), .str ⟨(a.obj.resp.body).toArray⟩, .int .i64 a.obj.t, .int .i64 a.at_, .int .i64 a.seq]
@[simp] theorem mdLL_eKp (m m' : Md) (l : List Kp) : X.mdLL m (l.map (eKp m')) = l.map (eKp m) := by induction l <;> simp_all [X.mdLL, X.mdL, X.md]
@[simp] theorem clean_eKp (l : List Kp) : X.clean.cleanLL (l.map (eKp .own)) = true := by induction l <;> simp_all [X.clean.cleanLL, X.clean.cleanL, X.clean]
@[simp] theorem cleans_eKp (l : List Kp) : X.clean.cleanLL (l.map (eKp .sl)) = true := by induction l <;> simp_all [X.clean.cleanLL, X.clean.cleanL, X.clean]
def wKp (a : Kp) : Nat := wOb a.obj
structure bKp (x : Kp) : Prop where
  k_obj : bOb x.obj
  k_at_ : bI x.at_
  k_seq : bI x.seq
theorem dec_Kp (a b : Kp) : decide (a = b) = (decide (a.obj = b.obj) && decide (a.at_ = b.at_) && decide (a.seq = b.seq)) := by
  cases a; cases b; simp [Bool.and_assoc]
def wWr (a : Wr) : Nat := a.text.length
structure bWr (x : Wr) : Prop where
  k_at_ : bI x.at_
  k_text : bS x.text
theorem dec_Wr (a b : Wr) : decide (a = b) = (decide (a.at_ = b.at_) && decide (a.text = b.text)) := by
  cases a; cases b; simp [Bool.and_assoc]
def wDsk (a : Dsk) : Nat := wL wS a.cells + wL wWr a.pending
structure bDsk (x : Dsk) : Prop where
  k_cells : (bL bS) x.cells
  k_pending : (bL bWr) x.pending
theorem dec_Dsk (a b : Dsk) : decide (a = b) = (decide (a.cells = b.cells) && decide (a.pending = b.pending)) := by
  cases a; cases b; simp [Bool.and_assoc]
structure Bn where
  kind : Int
  a : Str
  b : Str
  t : Int
  deriving DecidableEq
@[simp] def eBn (a : Bn) : List X := [.int .i64 a.kind, .str ⟨(a.a).toArray⟩, .str ⟨(a.b).toArray⟩, .int .i64 a.t]
@[simp] theorem mdLL_eBn (m : Md) (l : List Bn) : X.mdLL m (l.map eBn) = l.map eBn := by induction l <;> simp_all [X.mdLL, X.mdL, X.md]
@[simp] theorem clean_eBn (l : List Bn) : X.clean.cleanLL (l.map eBn) = true := by induction l <;> simp_all [X.clean.cleanLL, X.clean.cleanL, X.clean]
def wBn (a : Bn) : Nat := a.a.length + a.b.length
structure bBn (x : Bn) : Prop where
  k_kind : bI x.kind
  k_a : bS x.a
  k_b : bS x.b
  k_t : bI x.t
theorem dec_Bn (a b : Bn) : decide (a = b) = (decide (a.kind = b.kind) && decide (a.a = b.a) && decide (a.b = b.b) && decide (a.t = b.t)) := by
  cases a; cases b; simp [Bool.and_assoc]
structure Sh where
  disk : Dsk
  objs : List Kp
  bans : List Bn
  next : Int
  seq : Int
  deriving DecidableEq
@[simp] def eSh (m : Md) (a : Sh) : List X := [.row m 1 ((a.disk.cells).map eS), .row m 2 ((a.disk.pending).map eW), .row m 9 ((a.objs).map (eKp m)), .row m 4 ((a.bans).map eBn), .int .i64 a.next, .int .i64 a.seq]
@[simp] theorem mdLL_eSh (m m' : Md) (l : List Sh) : X.mdLL m (l.map (eSh m')) = l.map (eSh m) := by induction l <;> simp_all [X.mdLL, X.mdL, X.md]
@[simp] theorem clean_eSh (l : List Sh) : X.clean.cleanLL (l.map (eSh .own)) = true := by induction l <;> simp_all [X.clean.cleanLL, X.clean.cleanL, X.clean]
@[simp] theorem cleans_eSh (l : List Sh) : X.clean.cleanLL (l.map (eSh .sl)) = true := by induction l <;> simp_all [X.clean.cleanLL, X.clean.cleanL, X.clean]
def wSh (a : Sh) : Nat := wDsk a.disk + wL wKp a.objs + wL wBn a.bans
structure bSh (x : Sh) : Prop where
  k_disk : bDsk x.disk
  k_objs : (bL bKp) x.objs
  k_bans : (bL bBn) x.bans
  k_next : bI x.next
  k_seq : bI x.seq
theorem dec_Sh (a b : Sh) : decide (a = b) = (decide (a.disk = b.disk) && decide (a.objs = b.objs) && decide (a.bans = b.bans) && decide (a.next = b.next) && decide (a.seq = b.seq)) := by
  cases a; cases b; simp [Bool.and_assoc]
structure Fl where
  q : Rq
  who : List Int
  old : Ob
  hasOld : Bool
  deriving DecidableEq
@[simp] def eFl (m : Md) (a : Fl) : List X := [.int .i64 a.q.method, .str ⟨(a.q.path).toArray⟩, .row m 2 ((a.q.fields).map eFld), .str ⟨(a.q.body).toArray⟩, .row m 1 ((a.who).map eI), .str ⟨(a.old.path).toArray⟩, .row m 1 ((a.old.names).map eS), .row m 1 ((a.old.values).map eS), .int .i64 a.old.resp.status, .row m 2 ((a.old.resp.fields).map eFld), .str ⟨(a.old.resp.body).toArray⟩, .int .i64 a.old.t, .bool a.hasOld]
@[simp] theorem mdLL_eFl (m m' : Md) (l : List Fl) : X.mdLL m (l.map (eFl m')) = l.map (eFl m) := by induction l <;> simp_all [X.mdLL, X.mdL, X.md]
@[simp] theorem clean_eFl (l : List Fl) : X.clean.cleanLL (l.map (eFl .own)) = true := by induction l <;> simp_all [X.clean.cleanLL, X.clean.cleanL, X.clean]
@[simp] theorem cleans_eFl (l : List Fl) : X.clean.cleanLL (l.map (eFl .sl)) = true := by induction l <;> simp_all [X.clean.cleanLL, X.clean.cleanL, X.clean]
def wFl (a : Fl) : Nat := wRq a.q + wL wO a.who + wOb a.old
structure bFl (x : Fl) : Prop where
  k_q : bRq x.q
  k_who : (bL bI) x.who
  k_old : bOb x.old
  k_hasOld : bB x.hasOld
theorem dec_Fl (a b : Fl) : decide (a = b) = (decide (a.q = b.q) && decide (a.who = b.who) && decide (a.old = b.old) && decide (a.hasOld = b.hasOld)) := by
  cases a; cases b; simp [Bool.and_assoc]
structure Se where
  q : Rq
  resp : Rsp
  t : Int
  deriving DecidableEq
@[simp] def eSe (m : Md) (a : Se) : List X := [.int .i64 a.q.method, .str ⟨(a.q.path).toArray⟩, .row m 2 ((a.q.fields).map eFld), .str ⟨(a.q.body).toArray⟩, .int .i64 a.resp.status, .row m 2 ((a.resp.fields).map eFld), .str ⟨(a.resp.body).toArray⟩, .int .i64 a.t]
@[simp] theorem mdLL_eSe (m m' : Md) (l : List Se) : X.mdLL m (l.map (eSe m')) = l.map (eSe m) := by induction l <;> simp_all [X.mdLL, X.mdL, X.md]
@[simp] theorem clean_eSe (l : List Se) : X.clean.cleanLL (l.map (eSe .own)) = true := by induction l <;> simp_all [X.clean.cleanLL, X.clean.cleanL, X.clean]
@[simp] theorem cleans_eSe (l : List Se) : X.clean.cleanLL (l.map (eSe .sl)) = true := by induction l <;> simp_all [X.clean.cleanLL, X.clean.cleanL, X.clean]
def wSe (a : Se) : Nat := wRq a.q + wRsp a.resp
structure bSe (x : Se) : Prop where
  k_q : bRq x.q
  k_resp : bRsp x.resp
  k_t : bI x.t
theorem dec_Se (a b : Se) : decide (a = b) = (decide (a.q = b.q) && decide (a.resp = b.resp) && decide (a.t = b.t)) := by
  cases a; cases b; simp [Bool.and_assoc]
structure Rp where
  client : Int
  q : Rq
  resp : Rsp
  kind : Int
  t : Int
  obj : Ob
  bans : Int
  deriving DecidableEq
@[simp] def eRp (m : Md) (a : Rp) : List X := [.int .i64 a.client, .int .i64 a.q.method, .str ⟨(a.q.path).toArray⟩, .row m 2 ((a.q.fields).map eFld), .str ⟨(a.q.body).toArray⟩, .int .i64 a.resp.status, .row m 2 ((a.resp.fields).map eFld), .str ⟨(a.resp.body).toArray⟩, .int .i64 a.kind, .int .i64 a.t, .str ⟨(a.obj.path).toArray⟩, .row m 1 ((a.obj.names).map eS), .row m 1 ((a.obj.values).map eS), .int .i64 a.obj.resp.status, .row m 2 ((a.obj.resp.fields).map eFld), .str ⟨(a.obj.resp.body).toArray⟩, .int .i64 a.obj.t, .int .i64 a.bans]
@[simp] theorem mdLL_eRp (m m' : Md) (l : List Rp) : X.mdLL m (l.map (eRp m')) = l.map (eRp m) := by induction l <;> simp_all [X.mdLL, X.mdL, X.md]
@[simp] theorem clean_eRp (l : List Rp) : X.clean.cleanLL (l.map (eRp .own)) = true := by induction l <;> simp_all [X.clean.cleanLL, X.clean.cleanL, X.clean]
@[simp] theorem cleans_eRp (l : List Rp) : X.clean.cleanLL (l.map (eRp .sl)) = true := by induction l <;> simp_all [X.clean.cleanLL, X.clean.cleanL, X.clean]
def wRp (a : Rp) : Nat := wRq a.q + wRsp a.resp + wOb a.obj
structure bRp (x : Rp) : Prop where
  k_client : bI x.client
  k_q : bRq x.q
  k_resp : bRsp x.resp
  k_kind : bI x.kind
  k_t : bI x.t
  k_obj : bOb x.obj
  k_bans : bI x.bans
theorem dec_Rp (a b : Rp) : decide (a = b) = (decide (a.client = b.client) && decide (a.q = b.q) && decide (a.resp = b.resp) && decide (a.kind = b.kind) && decide (a.t = b.t) && decide (a.obj = b.obj) && decide (a.bans = b.bans)) := by
  cases a; cases b; simp [Bool.and_assoc]
structure Ca where
  shelf : Sh
  flights : List Fl
  now : Int
  seen : List Se
  sent : List Rp
  deriving DecidableEq
@[simp] def eCa (m : Md) (a : Ca) : List X := [.row m 1 ((a.shelf.disk.cells).map eS), .row m 2 ((a.shelf.disk.pending).map eW), .row m 9 ((a.shelf.objs).map (eKp m)), .row m 4 ((a.shelf.bans).map eBn), .int .i64 a.shelf.next, .int .i64 a.shelf.seq, .row m 13 ((a.flights).map (eFl m)), .int .i64 a.now, .row m 8 ((a.seen).map (eSe m)), .row m 18 ((a.sent).map (eRp m))]
@[simp] theorem mdLL_eCa (m m' : Md) (l : List Ca) : X.mdLL m (l.map (eCa m')) = l.map (eCa m) := by induction l <;> simp_all [X.mdLL, X.mdL, X.md]
@[simp] theorem clean_eCa (l : List Ca) : X.clean.cleanLL (l.map (eCa .own)) = true := by induction l <;> simp_all [X.clean.cleanLL, X.clean.cleanL, X.clean]
@[simp] theorem cleans_eCa (l : List Ca) : X.clean.cleanLL (l.map (eCa .sl)) = true := by induction l <;> simp_all [X.clean.cleanLL, X.clean.cleanL, X.clean]
def wCa (a : Ca) : Nat := wSh a.shelf + wL wFl a.flights + wL wSe a.seen + wL wRp a.sent
structure bCa (x : Ca) : Prop where
  k_shelf : bSh x.shelf
  k_flights : (bL bFl) x.flights
  k_now : bI x.now
  k_seen : (bL bSe) x.seen
  k_sent : (bL bRp) x.sent
theorem dec_Ca (a b : Ca) : decide (a = b) = (decide (a.shelf = b.shelf) && decide (a.flights = b.flights) && decide (a.now = b.now) && decide (a.seen = b.seen) && decide (a.sent = b.sent)) := by
  cases a; cases b; simp [Bool.and_assoc]
structure De where
  kind : Int
  client : Int
  q : Rq
  a : Int
  resp : Rsp
  ban : Bn
  keep : List Bool
  deriving DecidableEq
@[simp] def eDe (m : Md) (a : De) : List X := [.int .i64 a.kind, .int .i64 a.client, .int .i64 a.q.method, .str ⟨(a.q.path).toArray⟩, .row m 2 ((a.q.fields).map eFld), .str ⟨(a.q.body).toArray⟩, .int .i64 a.a, .int .i64 a.resp.status, .row m 2 ((a.resp.fields).map eFld), .str ⟨(a.resp.body).toArray⟩, .int .i64 a.ban.kind, .str ⟨(a.ban.a).toArray⟩, .str ⟨(a.ban.b).toArray⟩, .int .i64 a.ban.t, .row m 1 ((a.keep).map eB)]
@[simp] theorem mdLL_eDe (m m' : Md) (l : List De) : X.mdLL m (l.map (eDe m')) = l.map (eDe m) := by induction l <;> simp_all [X.mdLL, X.mdL, X.md]
@[simp] theorem clean_eDe (l : List De) : X.clean.cleanLL (l.map (eDe .own)) = true := by induction l <;> simp_all [X.clean.cleanLL, X.clean.cleanL, X.clean]
@[simp] theorem cleans_eDe (l : List De) : X.clean.cleanLL (l.map (eDe .sl)) = true := by induction l <;> simp_all [X.clean.cleanLL, X.clean.cleanL, X.clean]
def wDe (a : De) : Nat := wRq a.q + wRsp a.resp + wBn a.ban + wL wO a.keep
structure bDe (x : De) : Prop where
  k_kind : bI x.kind
  k_client : bI x.client
  k_q : bRq x.q
  k_a : bI x.a
  k_resp : bRsp x.resp
  k_ban : bBn x.ban
  k_keep : (bL bB) x.keep
theorem dec_De (a b : De) : decide (a = b) = (decide (a.kind = b.kind) && decide (a.client = b.client) && decide (a.q = b.q) && decide (a.a = b.a) && decide (a.resp = b.resp) && decide (a.ban = b.ban) && decide (a.keep = b.keep)) := by
  cases a; cases b; simp [Bool.and_assoc]
def tFld : List Ty := [.str, .str]
theorem confL_Fld {ts : List Ty} {l : List X} (h : ConfL ([.str, .str] ++ ts) l) : ∃ (a : Fld) (l' : List X), l = eFld a ++ l' ∧ bFld a ∧ ConfL ts l' := by
  simp only [List.cons_append, List.nil_append] at h
  obtain ⟨y1, r1, rfl, c1, h1⟩ := h.cons
  obtain ⟨a1, rfl, b1⟩ := conf_str c1
  obtain ⟨y2, r2, rfl, c2, h2⟩ := h1.cons
  obtain ⟨a2, rfl, b2⟩ := conf_str c2
  exact ⟨⟨a1, a2⟩, r2, by simp, ⟨b1, b2⟩, h2⟩
theorem conf_Fld {x : X} (h : ConfA (.agg tFld) x) : ∃ a, x = .agg (eFld a) ∧ bFld a := by
  obtain ⟨l, rfl, hl⟩ := confA_agg h
  obtain ⟨a, l', rfl, h1, h2⟩ := confL_Fld (ts := []) (l := l) (by rw [List.append_nil]; exact hl)
  obtain rfl := h2.nil
  exact ⟨a, by simp, h1⟩
def tRsp : List Ty := [.int .i64, .row [.str, .str], .str]
theorem confL_Rsp {ts : List Ty} {l : List X} (h : ConfL ([.int .i64, .row [.str, .str], .str] ++ ts) l) : ∃ (a : Rsp) (l' : List X), l = eRsp .sl a ++ l' ∧ bRsp a ∧ ConfL ts l' := by
  simp only [List.cons_append, List.nil_append] at h
  obtain ⟨y1, r1, rfl, c1, h1⟩ := h.cons
  obtain ⟨a1, rfl, b1⟩ := conf_int c1
  obtain ⟨y2, r2, rfl, c2, h2⟩ := h1.cons
  obtain ⟨a2, rfl, b2⟩ := conf_row eFld bFld c2 fun r hr => by
    obtain ⟨a, l', rfl, h1, h2⟩ := confL_Fld (ts := []) (by simpa using hr)
    obtain rfl := h2.nil
    exact ⟨a, by simp, h1⟩
  obtain ⟨y3, r3, rfl, c3, h3⟩ := h2.cons
  obtain ⟨a3, rfl, b3⟩ := conf_str c3
  exact ⟨⟨a1, a2, a3⟩, r3, by simp, ⟨b1, b2, b3⟩, h3⟩
theorem conf_Rsp {x : X} (h : ConfA (.agg tRsp) x) : ∃ a, x = .agg (eRsp .sl a) ∧ bRsp a := by
  obtain ⟨l, rfl, hl⟩ := confA_agg h
  obtain ⟨a, l', rfl, h1, h2⟩ := confL_Rsp (ts := []) (l := l) (by rw [List.append_nil]; exact hl)
  obtain rfl := h2.nil
  exact ⟨a, by simp, h1⟩
def tRq : List Ty := [.int .i64, .str, .row [.str, .str], .str]
theorem confL_Rq {ts : List Ty} {l : List X} (h : ConfL ([.int .i64, .str, .row [.str, .str], .str] ++ ts) l) : ∃ (a : Rq) (l' : List X), l = eRq .sl a ++ l' ∧ bRq a ∧ ConfL ts l' := by
  simp only [List.cons_append, List.nil_append] at h
  obtain ⟨y1, r1, rfl, c1, h1⟩ := h.cons
  obtain ⟨a1, rfl, b1⟩ := conf_int c1
  obtain ⟨y2, r2, rfl, c2, h2⟩ := h1.cons
  obtain ⟨a2, rfl, b2⟩ := conf_str c2
  obtain ⟨y3, r3, rfl, c3, h3⟩ := h2.cons
  obtain ⟨a3, rfl, b3⟩ := conf_row eFld bFld c3 fun r hr => by
    obtain ⟨a, l', rfl, h1, h2⟩ := confL_Fld (ts := []) (by simpa using hr)
    obtain rfl := h2.nil
    exact ⟨a, by simp, h1⟩
  obtain ⟨y4, r4, rfl, c4, h4⟩ := h3.cons
  obtain ⟨a4, rfl, b4⟩ := conf_str c4
  exact ⟨⟨a1, a2, a3, a4⟩, r4, by simp, ⟨b1, b2, b3, b4⟩, h4⟩
theorem conf_Rq {x : X} (h : ConfA (.agg tRq) x) : ∃ a, x = .agg (eRq .sl a) ∧ bRq a := by
  obtain ⟨l, rfl, hl⟩ := confA_agg h
  obtain ⟨a, l', rfl, h1, h2⟩ := confL_Rq (ts := []) (l := l) (by rw [List.append_nil]; exact hl)
  obtain rfl := h2.nil
  exact ⟨a, by simp, h1⟩
def tOb : List Ty := [.str, .row [.str], .row [.str], .int .i64, .row [.str, .str], .str, .int .i64]
theorem confL_Ob {ts : List Ty} {l : List X} (h : ConfL ([.str, .row [.str], .row [.str], .int .i64, .row [.str, .str], .str, .int .i64] ++ ts) l) : ∃ (a : Ob) (l' : List X), l = eOb .sl a ++ l' ∧ bOb a ∧ ConfL ts l' := by
  simp only [List.cons_append, List.nil_append] at h
  obtain ⟨y1, r1, rfl, c1, h1⟩ := h.cons
  obtain ⟨a1, rfl, b1⟩ := conf_str c1
  obtain ⟨y2, r2, rfl, c2, h2⟩ := h1.cons
  obtain ⟨a2, rfl, b2⟩ := conf_row eS bS c2 fun r hr => by
    obtain ⟨x, r', rfl, h1, h2⟩ := hr.cons
    obtain rfl := h2.nil
    obtain ⟨s, rfl, hs⟩ := conf_str h1
    exact ⟨s, rfl, hs⟩
  obtain ⟨y3, r3, rfl, c3, h3⟩ := h2.cons
  obtain ⟨a3, rfl, b3⟩ := conf_row eS bS c3 fun r hr => by
    obtain ⟨x, r', rfl, h1, h2⟩ := hr.cons
    obtain rfl := h2.nil
    obtain ⟨s, rfl, hs⟩ := conf_str h1
    exact ⟨s, rfl, hs⟩
  obtain ⟨a4, r4, rfl, b4, h4⟩ := confL_Rsp (ts := _) h3
  obtain ⟨y5, r5, rfl, c5, h5⟩ := h4.cons
  obtain ⟨a5, rfl, b5⟩ := conf_int c5
  exact ⟨⟨a1, a2, a3, a4, a5⟩, r5, by simp, ⟨b1, b2, b3, b4, b5⟩, h5⟩
theorem conf_Ob {x : X} (h : ConfA (.agg tOb) x) : ∃ a, x = .agg (eOb .sl a) ∧ bOb a := by
  obtain ⟨l, rfl, hl⟩ := confA_agg h
  obtain ⟨a, l', rfl, h1, h2⟩ := confL_Ob (ts := []) (l := l) (by rw [List.append_nil]; exact hl)
  obtain rfl := h2.nil
  exact ⟨a, by simp, h1⟩
def tKp : List Ty := [.str, .row [.str], .row [.str], .int .i64, .row [.str, .str], .str, .int .i64, .int .i64, .int .i64]
theorem confL_Kp {ts : List Ty} {l : List X} (h : ConfL ([.str, .row [.str], .row [.str], .int .i64, .row [.str, .str], .str, .int .i64, .int .i64, .int .i64] ++ ts) l) : ∃ (a : Kp) (l' : List X), l = eKp .sl a ++ l' ∧ bKp a ∧ ConfL ts l' := by
  simp only [List.cons_append, List.nil_append] at h
  obtain ⟨a1, r1, rfl, b1, h1⟩ := confL_Ob (ts := _) h
  obtain ⟨y2, r2, rfl, c2, h2⟩ := h1.cons
  obtain ⟨a2, rfl, b2⟩ := conf_int c2
  obtain ⟨y3, r3, rfl, c3, h3⟩ := h2.cons
  obtain ⟨a3, rfl, b3⟩ := conf_int c3
  exact ⟨⟨a1, a2, a3⟩, r3, by simp, ⟨b1, b2, b3⟩, h3⟩
theorem conf_Kp {x : X} (h : ConfA (.agg tKp) x) : ∃ a, x = .agg (eKp .sl a) ∧ bKp a := by
  obtain ⟨l, rfl, hl⟩ := confA_agg h
  obtain ⟨a, l', rfl, h1, h2⟩ := confL_Kp (ts := []) (l := l) (by rw [List.append_nil]; exact hl)
  obtain rfl := h2.nil
  exact ⟨a, by simp, h1⟩
def tWr : List Ty := [.int .i64, .str]
theorem confL_Wr {ts : List Ty} {l : List X} (h : ConfL ([.int .i64, .str] ++ ts) l) : ∃ (a : Wr) (l' : List X), l = eW a ++ l' ∧ bWr a ∧ ConfL ts l' := by
  simp only [List.cons_append, List.nil_append] at h
  obtain ⟨y1, r1, rfl, c1, h1⟩ := h.cons
  obtain ⟨a1, rfl, b1⟩ := conf_int c1
  obtain ⟨y2, r2, rfl, c2, h2⟩ := h1.cons
  obtain ⟨a2, rfl, b2⟩ := conf_str c2
  exact ⟨⟨a1, a2⟩, r2, by simp, ⟨b1, b2⟩, h2⟩
theorem conf_Wr {x : X} (h : ConfA (.agg tWr) x) : ∃ a, x = .agg (eW a) ∧ bWr a := by
  obtain ⟨l, rfl, hl⟩ := confA_agg h
  obtain ⟨a, l', rfl, h1, h2⟩ := confL_Wr (ts := []) (l := l) (by rw [List.append_nil]; exact hl)
  obtain rfl := h2.nil
  exact ⟨a, by simp, h1⟩
def tDsk : List Ty := [.row [.str], .row [.int .i64, .str]]
theorem confL_Dsk {ts : List Ty} {l : List X} (h : ConfL ([.row [.str], .row [.int .i64, .str]] ++ ts) l) : ∃ (a : Dsk) (l' : List X), l = eDsk .sl a ++ l' ∧ bDsk a ∧ ConfL ts l' := by
  simp only [List.cons_append, List.nil_append] at h
  obtain ⟨y1, r1, rfl, c1, h1⟩ := h.cons
  obtain ⟨a1, rfl, b1⟩ := conf_row eS bS c1 fun r hr => by
    obtain ⟨x, r', rfl, h1, h2⟩ := hr.cons
    obtain rfl := h2.nil
    obtain ⟨s, rfl, hs⟩ := conf_str h1
    exact ⟨s, rfl, hs⟩
  obtain ⟨y2, r2, rfl, c2, h2⟩ := h1.cons
  obtain ⟨a2, rfl, b2⟩ := conf_row eW bWr c2 fun r hr => by
    obtain ⟨a, l', rfl, h1, h2⟩ := confL_Wr (ts := []) (by simpa using hr)
    obtain rfl := h2.nil
    exact ⟨a, by simp, h1⟩
  exact ⟨⟨a1, a2⟩, r2, by simp, ⟨b1, b2⟩, h2⟩
theorem conf_Dsk {x : X} (h : ConfA (.agg tDsk) x) : ∃ a, x = .agg (eDsk .sl a) ∧ bDsk a := by
  obtain ⟨l, rfl, hl⟩ := confA_agg h
  obtain ⟨a, l', rfl, h1, h2⟩ := confL_Dsk (ts := []) (l := l) (by rw [List.append_nil]; exact hl)
  obtain rfl := h2.nil
  exact ⟨a, by simp, h1⟩
def tBn : List Ty := [.int .i64, .str, .str, .int .i64]
theorem confL_Bn {ts : List Ty} {l : List X} (h : ConfL ([.int .i64, .str, .str, .int .i64] ++ ts) l) : ∃ (a : Bn) (l' : List X), l = eBn a ++ l' ∧ bBn a ∧ ConfL ts l' := by
  simp only [List.cons_append, List.nil_append] at h
  obtain ⟨y1, r1, rfl, c1, h1⟩ := h.cons
  obtain ⟨a1, rfl, b1⟩ := conf_int c1
  obtain ⟨y2, r2, rfl, c2, h2⟩ := h1.cons
  obtain ⟨a2, rfl, b2⟩ := conf_str c2
  obtain ⟨y3, r3, rfl, c3, h3⟩ := h2.cons
  obtain ⟨a3, rfl, b3⟩ := conf_str c3
  obtain ⟨y4, r4, rfl, c4, h4⟩ := h3.cons
  obtain ⟨a4, rfl, b4⟩ := conf_int c4
  exact ⟨⟨a1, a2, a3, a4⟩, r4, by simp, ⟨b1, b2, b3, b4⟩, h4⟩
theorem conf_Bn {x : X} (h : ConfA (.agg tBn) x) : ∃ a, x = .agg (eBn a) ∧ bBn a := by
  obtain ⟨l, rfl, hl⟩ := confA_agg h
  obtain ⟨a, l', rfl, h1, h2⟩ := confL_Bn (ts := []) (l := l) (by rw [List.append_nil]; exact hl)
  obtain rfl := h2.nil
  exact ⟨a, by simp, h1⟩
def tSh : List Ty := [.row [.str], .row [.int .i64, .str], .row [.str, .row [.str], .row [.str], .int .i64, .row [.str, .str], .str, .int .i64, .int .i64, .int .i64], .row [.int .i64, .str, .str, .int .i64], .int .i64, .int .i64]
theorem confL_Sh {ts : List Ty} {l : List X} (h : ConfL ([.row [.str], .row [.int .i64, .str], .row [.str, .row [.str], .row [.str], .int .i64, .row [.str, .str], .str, .int .i64, .int .i64, .int .i64], .row [.int .i64, .str, .str, .int .i64], .int .i64, .int .i64] ++ ts) l) : ∃ (a : Sh) (l' : List X), l = eSh .sl a ++ l' ∧ bSh a ∧ ConfL ts l' := by
  simp only [List.cons_append, List.nil_append] at h
  obtain ⟨a1, r1, rfl, b1, h1⟩ := confL_Dsk (ts := _) h
  obtain ⟨y2, r2, rfl, c2, h2⟩ := h1.cons
  obtain ⟨a2, rfl, b2⟩ := conf_row (eKp .sl) bKp c2 fun r hr => by
    obtain ⟨a, l', rfl, h1, h2⟩ := confL_Kp (ts := []) (by simpa using hr)
    obtain rfl := h2.nil
    exact ⟨a, by simp, h1⟩
  obtain ⟨y3, r3, rfl, c3, h3⟩ := h2.cons
  obtain ⟨a3, rfl, b3⟩ := conf_row eBn bBn c3 fun r hr => by
    obtain ⟨a, l', rfl, h1, h2⟩ := confL_Bn (ts := []) (by simpa using hr)
    obtain rfl := h2.nil
    exact ⟨a, by simp, h1⟩
  obtain ⟨y4, r4, rfl, c4, h4⟩ := h3.cons
  obtain ⟨a4, rfl, b4⟩ := conf_int c4
  obtain ⟨y5, r5, rfl, c5, h5⟩ := h4.cons
  obtain ⟨a5, rfl, b5⟩ := conf_int c5
  exact ⟨⟨a1, a2, a3, a4, a5⟩, r5, by simp, ⟨b1, b2, b3, b4, b5⟩, h5⟩
theorem conf_Sh {x : X} (h : ConfA (.agg tSh) x) : ∃ a, x = .agg (eSh .sl a) ∧ bSh a := by
  obtain ⟨l, rfl, hl⟩ := confA_agg h
  obtain ⟨a, l', rfl, h1, h2⟩ := confL_Sh (ts := []) (l := l) (by rw [List.append_nil]; exact hl)
  obtain rfl := h2.nil
  exact ⟨a, by simp, h1⟩
def tFl : List Ty := [.int .i64, .str, .row [.str, .str], .str, .row [.int .i64], .str, .row [.str], .row [.str], .int .i64, .row [.str, .str], .str, .int .i64, .bool]
theorem confL_Fl {ts : List Ty} {l : List X} (h : ConfL ([.int .i64, .str, .row [.str, .str], .str, .row [.int .i64], .str, .row [.str], .row [.str], .int .i64, .row [.str, .str], .str, .int .i64, .bool] ++ ts) l) : ∃ (a : Fl) (l' : List X), l = eFl .sl a ++ l' ∧ bFl a ∧ ConfL ts l' := by
  simp only [List.cons_append, List.nil_append] at h
  obtain ⟨a1, r1, rfl, b1, h1⟩ := confL_Rq (ts := _) h
  obtain ⟨y2, r2, rfl, c2, h2⟩ := h1.cons
  obtain ⟨a2, rfl, b2⟩ := conf_row eI bI c2 fun r hr => by
    obtain ⟨x, r', rfl, h1, h2⟩ := hr.cons
    obtain rfl := h2.nil
    obtain ⟨s, rfl, hs⟩ := conf_int h1
    exact ⟨s, rfl, hs⟩
  obtain ⟨a3, r3, rfl, b3, h3⟩ := confL_Ob (ts := _) h2
  obtain ⟨y4, r4, rfl, c4, h4⟩ := h3.cons
  obtain ⟨a4, rfl⟩ := conf_bool c4
  exact ⟨⟨a1, a2, a3, a4⟩, r4, by simp, ⟨b1, b2, b3, trivial⟩, h4⟩
theorem conf_Fl {x : X} (h : ConfA (.agg tFl) x) : ∃ a, x = .agg (eFl .sl a) ∧ bFl a := by
  obtain ⟨l, rfl, hl⟩ := confA_agg h
  obtain ⟨a, l', rfl, h1, h2⟩ := confL_Fl (ts := []) (l := l) (by rw [List.append_nil]; exact hl)
  obtain rfl := h2.nil
  exact ⟨a, by simp, h1⟩
def tSe : List Ty := [.int .i64, .str, .row [.str, .str], .str, .int .i64, .row [.str, .str], .str, .int .i64]
theorem confL_Se {ts : List Ty} {l : List X} (h : ConfL ([.int .i64, .str, .row [.str, .str], .str, .int .i64, .row [.str, .str], .str, .int .i64] ++ ts) l) : ∃ (a : Se) (l' : List X), l = eSe .sl a ++ l' ∧ bSe a ∧ ConfL ts l' := by
  simp only [List.cons_append, List.nil_append] at h
  obtain ⟨a1, r1, rfl, b1, h1⟩ := confL_Rq (ts := _) h
  obtain ⟨a2, r2, rfl, b2, h2⟩ := confL_Rsp (ts := _) h1
  obtain ⟨y3, r3, rfl, c3, h3⟩ := h2.cons
  obtain ⟨a3, rfl, b3⟩ := conf_int c3
  exact ⟨⟨a1, a2, a3⟩, r3, by simp, ⟨b1, b2, b3⟩, h3⟩
theorem conf_Se {x : X} (h : ConfA (.agg tSe) x) : ∃ a, x = .agg (eSe .sl a) ∧ bSe a := by
  obtain ⟨l, rfl, hl⟩ := confA_agg h
  obtain ⟨a, l', rfl, h1, h2⟩ := confL_Se (ts := []) (l := l) (by rw [List.append_nil]; exact hl)
  obtain rfl := h2.nil
  exact ⟨a, by simp, h1⟩
def tRp : List Ty := [.int .i64, .int .i64, .str, .row [.str, .str], .str, .int .i64, .row [.str, .str], .str, .int .i64, .int .i64, .str, .row [.str], .row [.str], .int .i64, .row [.str, .str], .str, .int .i64, .int .i64]
theorem confL_Rp {ts : List Ty} {l : List X} (h : ConfL ([.int .i64, .int .i64, .str, .row [.str, .str], .str, .int .i64, .row [.str, .str], .str, .int .i64, .int .i64, .str, .row [.str], .row [.str], .int .i64, .row [.str, .str], .str, .int .i64, .int .i64] ++ ts) l) : ∃ (a : Rp) (l' : List X), l = eRp .sl a ++ l' ∧ bRp a ∧ ConfL ts l' := by
  simp only [List.cons_append, List.nil_append] at h
  obtain ⟨y1, r1, rfl, c1, h1⟩ := h.cons
  obtain ⟨a1, rfl, b1⟩ := conf_int c1
  obtain ⟨a2, r2, rfl, b2, h2⟩ := confL_Rq (ts := _) h1
  obtain ⟨a3, r3, rfl, b3, h3⟩ := confL_Rsp (ts := _) h2
  obtain ⟨y4, r4, rfl, c4, h4⟩ := h3.cons
  obtain ⟨a4, rfl, b4⟩ := conf_int c4
  obtain ⟨y5, r5, rfl, c5, h5⟩ := h4.cons
  obtain ⟨a5, rfl, b5⟩ := conf_int c5
  obtain ⟨a6, r6, rfl, b6, h6⟩ := confL_Ob (ts := _) h5
  obtain ⟨y7, r7, rfl, c7, h7⟩ := h6.cons
  obtain ⟨a7, rfl, b7⟩ := conf_int c7
  exact ⟨⟨a1, a2, a3, a4, a5, a6, a7⟩, r7, by simp, ⟨b1, b2, b3, b4, b5, b6, b7⟩, h7⟩
theorem conf_Rp {x : X} (h : ConfA (.agg tRp) x) : ∃ a, x = .agg (eRp .sl a) ∧ bRp a := by
  obtain ⟨l, rfl, hl⟩ := confA_agg h
  obtain ⟨a, l', rfl, h1, h2⟩ := confL_Rp (ts := []) (l := l) (by rw [List.append_nil]; exact hl)
  obtain rfl := h2.nil
  exact ⟨a, by simp, h1⟩
def tCa : List Ty := [.row [.str], .row [.int .i64, .str], .row [.str, .row [.str], .row [.str], .int .i64, .row [.str, .str], .str, .int .i64, .int .i64, .int .i64], .row [.int .i64, .str, .str, .int .i64], .int .i64, .int .i64, .row [.int .i64, .str, .row [.str, .str], .str, .row [.int .i64], .str, .row [.str], .row [.str], .int .i64, .row [.str, .str], .str, .int .i64, .bool], .int .i64, .row [.int .i64, .str, .row [.str, .str], .str, .int .i64, .row [.str, .str], .str, .int .i64], .row [.int .i64, .int .i64, .str, .row [.str, .str], .str, .int .i64, .row [.str, .str], .str, .int .i64, .int .i64, .str, .row [.str], .row [.str], .int .i64, .row [.str, .str], .str, .int .i64, .int .i64]]
theorem confL_Ca {ts : List Ty} {l : List X} (h : ConfL ([.row [.str], .row [.int .i64, .str], .row [.str, .row [.str], .row [.str], .int .i64, .row [.str, .str], .str, .int .i64, .int .i64, .int .i64], .row [.int .i64, .str, .str, .int .i64], .int .i64, .int .i64, .row [.int .i64, .str, .row [.str, .str], .str, .row [.int .i64], .str, .row [.str], .row [.str], .int .i64, .row [.str, .str], .str, .int .i64, .bool], .int .i64, .row [.int .i64, .str, .row [.str, .str], .str, .int .i64, .row [.str, .str], .str, .int .i64], .row [.int .i64, .int .i64, .str, .row [.str, .str], .str, .int .i64, .row [.str, .str], .str, .int .i64, .int .i64, .str, .row [.str], .row [.str], .int .i64, .row [.str, .str], .str, .int .i64, .int .i64]] ++ ts) l) : ∃ (a : Ca) (l' : List X), l = eCa .sl a ++ l' ∧ bCa a ∧ ConfL ts l' := by
  simp only [List.cons_append, List.nil_append] at h
  obtain ⟨a1, r1, rfl, b1, h1⟩ := confL_Sh (ts := _) h
  obtain ⟨y2, r2, rfl, c2, h2⟩ := h1.cons
  obtain ⟨a2, rfl, b2⟩ := conf_row (eFl .sl) bFl c2 fun r hr => by
    obtain ⟨a, l', rfl, h1, h2⟩ := confL_Fl (ts := []) (by simpa using hr)
    obtain rfl := h2.nil
    exact ⟨a, by simp, h1⟩
  obtain ⟨y3, r3, rfl, c3, h3⟩ := h2.cons
  obtain ⟨a3, rfl, b3⟩ := conf_int c3
  obtain ⟨y4, r4, rfl, c4, h4⟩ := h3.cons
  obtain ⟨a4, rfl, b4⟩ := conf_row (eSe .sl) bSe c4 fun r hr => by
    obtain ⟨a, l', rfl, h1, h2⟩ := confL_Se (ts := []) (by simpa using hr)
    obtain rfl := h2.nil
    exact ⟨a, by simp, h1⟩
  obtain ⟨y5, r5, rfl, c5, h5⟩ := h4.cons
  obtain ⟨a5, rfl, b5⟩ := conf_row (eRp .sl) bRp c5 fun r hr => by
    obtain ⟨a, l', rfl, h1, h2⟩ := confL_Rp (ts := []) (by simpa using hr)
    obtain rfl := h2.nil
    exact ⟨a, by simp, h1⟩
  exact ⟨⟨a1, a2, a3, a4, a5⟩, r5, by simp, ⟨b1, b2, b3, b4, b5⟩, h5⟩
theorem conf_Ca {x : X} (h : ConfA (.agg tCa) x) : ∃ a, x = .agg (eCa .sl a) ∧ bCa a := by
  obtain ⟨l, rfl, hl⟩ := confA_agg h
  obtain ⟨a, l', rfl, h1, h2⟩ := confL_Ca (ts := []) (l := l) (by rw [List.append_nil]; exact hl)
  obtain rfl := h2.nil
  exact ⟨a, by simp, h1⟩
def tDe : List Ty := [.int .i64, .int .i64, .int .i64, .str, .row [.str, .str], .str, .int .i64, .int .i64, .row [.str, .str], .str, .int .i64, .str, .str, .int .i64, .row [.bool]]
theorem confL_De {ts : List Ty} {l : List X} (h : ConfL ([.int .i64, .int .i64, .int .i64, .str, .row [.str, .str], .str, .int .i64, .int .i64, .row [.str, .str], .str, .int .i64, .str, .str, .int .i64, .row [.bool]] ++ ts) l) : ∃ (a : De) (l' : List X), l = eDe .sl a ++ l' ∧ bDe a ∧ ConfL ts l' := by
  simp only [List.cons_append, List.nil_append] at h
  obtain ⟨y1, r1, rfl, c1, h1⟩ := h.cons
  obtain ⟨a1, rfl, b1⟩ := conf_int c1
  obtain ⟨y2, r2, rfl, c2, h2⟩ := h1.cons
  obtain ⟨a2, rfl, b2⟩ := conf_int c2
  obtain ⟨a3, r3, rfl, b3, h3⟩ := confL_Rq (ts := _) h2
  obtain ⟨y4, r4, rfl, c4, h4⟩ := h3.cons
  obtain ⟨a4, rfl, b4⟩ := conf_int c4
  obtain ⟨a5, r5, rfl, b5, h5⟩ := confL_Rsp (ts := _) h4
  obtain ⟨a6, r6, rfl, b6, h6⟩ := confL_Bn (ts := _) h5
  obtain ⟨y7, r7, rfl, c7, h7⟩ := h6.cons
  obtain ⟨a7, rfl, b7⟩ := conf_row eB bB c7 fun r hr => by
    obtain ⟨x, r', rfl, h1, h2⟩ := hr.cons
    obtain rfl := h2.nil
    obtain ⟨s, rfl⟩ := conf_bool h1
    exact ⟨s, rfl, trivial⟩
  exact ⟨⟨a1, a2, a3, a4, a5, a6, a7⟩, r7, by simp, ⟨b1, b2, b3, b4, b5, b6, b7⟩, h7⟩
theorem conf_De {x : X} (h : ConfA (.agg tDe) x) : ∃ a, x = .agg (eDe .sl a) ∧ bDe a := by
  obtain ⟨l, rfl, hl⟩ := confA_agg h
  obtain ⟨a, l', rfl, h1, h2⟩ := confL_De (ts := []) (l := l) (by rw [List.append_nil]; exact hl)
  obtain rfl := h2.nil
  exact ⟨a, by simp, h1⟩
end M
set_option linter.unusedVariables false
set_option linter.unusedSimpArgs false
namespace M
open Go
/-! Loops that end at the first; loops that gather. -/
def firstI {β : Type} (p : β → Bool) : Nat → List β → Option (Nat × β)
  | _, [] => none
  | i, b :: l => if p b = true then some (i, b) else firstI p (i + 1) l
theorem firstI_some {β : Type} {p : β → Bool} : ∀ {l : List β} {k i : Nat} {b : β}, firstI p k l = some (i, b) → k ≤ i ∧ l[i - k]? = some b ∧ p b = true
  | b' :: l, k, i, b, h => by
    unfold firstI at h
    split at h
    · rename_i hp
      cases h
      exact ⟨Nat.le_refl _, by simp, hp⟩
    · obtain ⟨h1, h2, h3⟩ := firstI_some h
      refine ⟨by omega, ?_, h3⟩
      rw [show i - k = (i - (k + 1)) + 1 by omega, List.getElem?_cons_succ]
      exact h2
theorem firstI_none {β : Type} {p : β → Bool} : ∀ {l : List β} {k : Nat}, firstI p k l = none ↔ ∀ b ∈ l, ¬ p b = true
  | [], k => by simp [firstI]
  | b' :: l, k => by
    unfold firstI
    by_cases hp : p b' = true
    · simp [hp]
    · rw [if_neg hp, firstI_none]
      simp [hp]
theorem loop_first {xt : Nat} {β : Type} {f : Slots → Res} (l : List β) (st : Nat → Slots) (p : β → Bool) (R : Nat → β → Slots) (E : Slots)
    (h : ∀ i b, l[i]? = some b → i < l.length → f (st i) = if p b = true then some (.ret, R i b) else some (.normal, st (i + 1)))
    (hend : f (st l.length) = some (.exit xt, E)) :
    loopW f (st 0) = (firstI p 0 l).elim (some (.exit xt, E)) fun x => some (.ret, R x.1 x.2) := by
  suffices H : ∀ (r : List β) (i : Nat), l.drop i = r → i ≤ l.length → loopW f (st i) = (firstI p i r).elim (some (.exit xt, E)) fun x => some (.ret, R x.1 x.2) from H l 0 rfl (Nat.zero_le _)
  intro r
  induction r with
  | nil =>
    intro i hr hi
    have : i = l.length := by
      have := congrArg List.length hr
      simp at this
      omega
    subst this
    rw [loopW_eq, hend]
    rfl
  | cons b r ih =>
    intro i hr hi
    have hb : l[i]? = some b := by
      have := congrArg (fun t : List β => t[0]?) hr
      simpa using this
    have hlt : i < l.length := (List.getElem?_eq_some_iff.1 hb).1
    have hd : l.drop (i + 1) = r := by
      have := congrArg List.tail hr
      simpa using this
    rw [loopW_eq, h i b hb hlt]
    unfold firstI
    by_cases hp : p b = true
    · simp [hp, lv]
    · simp only [hp]
      exact ih (i + 1) hd hlt
theorem loop_flat {xt : Nat} {β γ : Type} {f : Slots → Res} (l : List β) (φ : β → List γ) (st : Nat → List γ → Slots) (E : List γ → Slots)
    (h : ∀ i b out, l[i]? = some b → i < l.length → out = (l.take i).flatMap φ → f (st i out) = some (.normal, st (i + 1) (out ++ φ b)))
    (hend : ∀ out, out = l.flatMap φ → f (st l.length out) = some (.exit xt, E out)) :
    loopW f (st 0 []) = some (.exit xt, E (l.flatMap φ)) := by
  suffices H : ∀ (k i : Nat), i + k = l.length → loopW f (st i ((l.take i).flatMap φ)) = some (.exit xt, E (l.flatMap φ)) from H l.length 0 (by omega)
  intro k
  induction k with
  | zero =>
    intro i hi
    obtain rfl : i = l.length := by omega
    rw [List.take_length, loopW_eq, hend _ rfl]
    rfl
  | succ k ih =>
    intro i hi
    have hlt : i < l.length := by omega
    rw [loopW_eq, h i l[i] _ (List.getElem?_eq_getElem hlt) hlt rfl]
    have : (l.take i).flatMap φ ++ φ l[i] = (l.take (i + 1)).flatMap φ := by
      rw [List.take_succ_eq_append_getElem hlt, List.flatMap_append]
      simp
    simp only [this]
    exact ih (i + 1) (by omega)
theorem flatMap_one {β γ : Type} (g : β → γ) (l : List β) : l.flatMap (fun b => [g b]) = l.map g := by induction l <;> simp_all
theorem flat_one_len {β γ : Type} (g : β → γ) (l : List β) (i : Nat) (h : i ≤ l.length) : ((l.take i).flatMap (fun b => [g b])).length = i := by rw [flatMap_one]; simp; omega
/-- The place of the last one; -1 without one. -/
def lastF {β : Type} (p : β → Bool) (l : List β) : Int := foldI (fun i g b => if p b = true then (i : Int) else g) 0 l (-1)
theorem foldI_snoc {β γ : Type} (go : Nat → γ → β → γ) : ∀ (l : List β) (k : Nat) (b : β) (g : γ), foldI go k (l ++ [b]) g = go (k + l.length) (foldI go k l g) b
  | [], k, b, g => rfl
  | a :: l, k, b, g => by
    show foldI go (k + 1) (l ++ [b]) (go k g a) = go (k + (l.length + 1)) (foldI go (k + 1) l (go k g a)) b
    rw [foldI_snoc go l (k + 1) b, show k + 1 + l.length = k + (l.length + 1) by omega]
theorem lastF_take {β : Type} (p : β → Bool) (l : List β) (k : Nat) (h : k < l.length) : lastF p (l.take (k + 1)) = if p l[k] = true then (k : Int) else lastF p (l.take k) := by
  unfold lastF
  rw [List.take_succ_eq_append_getElem h, foldI_snoc, List.length_take, Nat.min_eq_left (by omega), Nat.zero_add]
theorem loop_downF {xt : Nat} {β : Type} {f : Slots → Res} (l : List β) (st : Int → Slots) (p : β → Bool) (R : Int → Slots) (E : Slots)
    (h : ∀ (i : Nat) b, l[i]? = some b → i < l.length → f (st i) = if p b = true then some (.ret, R i) else some (.normal, st (i - 1)))
    (hend : f (st (-1)) = some (.exit xt, E)) :
    loopW f (st (l.length - 1)) = if lastF p l < 0 then some (.exit xt, E) else some (.ret, R (lastF p l)) := by
  suffices H : ∀ k, k ≤ l.length → loopW f (st ((k : Int) - 1)) = if lastF p (l.take k) < 0 then some (.exit xt, E) else some (.ret, R (lastF p (l.take k))) by
    have := H l.length (Nat.le_refl _)
    rwa [List.take_length] at this
  intro k
  induction k with
  | zero =>
    intro _
    rw [loopW_eq]
    have : lastF p (l.take 0) = -1 := by simp [lastF, foldI]
    rw [this, show (((0 : Nat) : Int) - 1) = -1 by omega, hend]
    rfl
  | succ k ih =>
    intro hk
    rw [loopW_eq, show (((k + 1 : Nat) : Int) - 1) = (k : Int) by omega, h k l[k] (List.getElem?_eq_getElem (by omega)) (by omega), lastF_take p l k (by omega)]
    by_cases hp : p l[k] = true
    · simp only [hp, if_true]
      rw [if_neg (by omega)]
      rfl
    · simp only [hp]
      exact ih (by omega)
theorem lastF_neg {β : Type} {p : β → Bool} {l : List β} (h : lastF p l < 0) : lastF p l = -1 := by
  have H : ∀ k, k ≤ l.length → lastF p (l.take k) = -1 ∨ 0 ≤ lastF p (l.take k) := by
    intro k
    induction k with
    | zero => intro _; exact .inl (by simp [lastF, foldI])
    | succ k ih =>
      intro hk
      rw [lastF_take p l k (by omega)]
      split
      · exact .inr (by omega)
      · exact ih (by omega)
  have := H l.length (Nat.le_refl _)
  rw [List.take_length] at this
  omega
end M
set_option linter.unusedVariables false
set_option linter.unusedSimpArgs false
namespace M
open Go
/-! What the program's words compute: letters, numbers, rows of words. -/
def lowB (b : UInt8) : UInt8 := if 65 ≤ b.toNat ∧ b.toNat ≤ 90 then b + 32 else b
def lowS (s : Str) : Str := s.map lowB
def tokB (b : UInt8) : Bool := decide ((97 ≤ b.toNat ∧ b.toNat ≤ 122) ∨ (48 ≤ b.toNat ∧ b.toNat ≤ 57) ∨ b.toNat = 45)
def tokenOk (s : Str) : Bool := allB tokB s && decide (1 ≤ (s.length : Int) ∧ (s.length : Int) ≤ 20)
def visB (lo : Nat) (b : UInt8) : Bool := decide (lo ≤ b.toNat ∧ b.toNat ≤ 126)
def trimS (s : Str) : Str := Lib.trimB s 32
def valueOk (s : Str) : Bool := allB (visB 32) s && decide (1 ≤ (s.length : Int) ∧ (s.length : Int) ≤ 60) && decide (trimS s = s)
def numText (n : Int) : Str := if 0 ≤ n ∧ n ≤ 1000000 then digS n.toNat else []
def digB (b : UInt8) : Bool := decide (48 ≤ b.toNat ∧ b.toNat ≤ 57)
def valS (s : Str) : Nat := s.foldl (fun x b => 10 * x + b.toNat - 48) 0
def numRead (s : Str) : Option Nat := if valS s ≤ 1000000 ∧ digS (valS s) = s then some (valS s) else none
def pathOk (s : Str) : Bool := allB (visB 33) s && decide (1 ≤ (s.length : Int) ∧ (s.length : Int) ≤ 60) && decide (s[0]?.map (fun b : UInt8 => (b.toNat : Int)) = some 47)
/-! Trimming from either side first. -/
theorem dropWhile_app {α : Type} (p : α → Bool) : ∀ (a b : List α), (∃ x ∈ a, p x = false) → (a ++ b).dropWhile p = a.dropWhile p ++ b
  | [], b, h => by simp at h
  | x :: a, b, h => by
    simp only [List.cons_append, List.dropWhile_cons]
    by_cases hx : p x = true
    · simp only [hx, if_true]
      refine dropWhile_app p a b ?_
      obtain ⟨y, hy, hp⟩ := h
      rcases List.mem_cons.1 hy with rfl | hy
      · rw [hx] at hp; cases hp
      · exact ⟨y, hy, hp⟩
    · simp [hx]
theorem dropWhile_all {α : Type} (p : α → Bool) : ∀ (a : List α), (∀ x ∈ a, p x = true) → a.dropWhile p = []
  | [], _ => rfl
  | x :: a, h => by
    rw [List.dropWhile_cons, if_pos (h x (List.mem_cons_self ..))]
    exact dropWhile_all p a fun y hy => h y (List.mem_cons_of_mem _ hy)
theorem dropWhile_mem {α : Type} (p : α → Bool) : ∀ {a : List α} {x : α}, x ∈ a → p x = false → x ∈ a.dropWhile p
  | y :: a, x, h, hp => by
    rw [List.dropWhile_cons]
    by_cases hy : p y = true
    · rw [if_pos hy]
      rcases List.mem_cons.1 h with rfl | h
      · rw [hy] at hp; cases hp
      · exact dropWhile_mem p h hp
    · rw [if_neg hy]; exact h
theorem dropWhile_split {α : Type} (p : α → Bool) (l : List α) : ∃ a, l = a ++ l.dropWhile p ∧ ∀ x ∈ a, p x = true := by
  refine ⟨l.takeWhile p, (List.takeWhile_append_dropWhile).symm, fun x hx => ?_⟩
  have := List.all_takeWhile (l := l) (p := p)
  exact List.all_eq_true.1 this x hx
theorem trim_comm (p : UInt8 → Bool) (l : List UInt8) : (l.reverse.dropWhile p).reverse.dropWhile p = ((l.dropWhile p).reverse.dropWhile p).reverse := by
  by_cases h : ∃ x ∈ l, p x = false
  · obtain ⟨x, hx, hp⟩ := h
    obtain ⟨a, e1, h1⟩ := dropWhile_split p l
    have hm : x ∈ l.dropWhile p := dropWhile_mem p hx hp
    have e2 : l.reverse.dropWhile p = (l.dropWhile p).reverse.dropWhile p ++ a.reverse := by
      conv => lhs; rw [e1, List.reverse_append]
      exact dropWhile_app p _ _ ⟨x, by simpa using hm, hp⟩
    rw [e2, List.reverse_append, List.reverse_reverse]
    obtain ⟨b, e3, h3⟩ := dropWhile_split p (l.dropWhile p).reverse
    generalize hd : (l.dropWhile p).reverse.dropWhile p = d at e3 ⊢
    have hdne : ∃ y ∈ d, p y = false := ⟨x, by rw [← hd]; exact dropWhile_mem p (by simpa using hm) hp, hp⟩
    have e4 : l.dropWhile p = d.reverse ++ b.reverse := by
      have := congrArg List.reverse e3
      simpa using this
    have e5 : (a ++ d.reverse).dropWhile p = d.reverse.dropWhile p := by
      clear e1 e2 e3 hm
      induction a with
      | nil => rfl
      | cons y a ih =>
        rw [List.cons_append, List.dropWhile_cons, if_pos (h1 y (List.mem_cons_self ..))]
        exact ih fun z hz => h1 z (List.mem_cons_of_mem _ hz)
    rw [e5]
    have e6 : (l.dropWhile p).dropWhile p = l.dropWhile p := by
      have : ∀ l : List UInt8, (l.dropWhile p).dropWhile p = l.dropWhile p := by
        intro l
        induction l with
        | nil => rfl
        | cons y l ih =>
          rw [List.dropWhile_cons]
          by_cases hy : p y = true
          · rw [if_pos hy]; exact ih
          · rw [if_neg hy, List.dropWhile_cons, if_neg hy]
      exact this l
    rw [e4] at e6
    rw [dropWhile_app p d.reverse b.reverse (by obtain ⟨y, hy, hp⟩ := hdne; exact ⟨y, by simpa using hy, hp⟩)] at e6
    exact List.append_cancel_right e6
  · have h1 : ∀ x ∈ l, p x = true := fun x hx => by
      cases hp : p x with
      | true => rfl
      | false => exact absurd ⟨x, hx, hp⟩ h
    rw [dropWhile_all p l h1, dropWhile_all p l.reverse (fun x hx => h1 x (by simpa using hx))]
    rfl
theorem trimS_left (s : Str) : trimS s = Lib.trimRightB (Lib.trimLeftB s 32) 32 := trim_comm _ s
theorem trimS_len (s : Str) : (trimS s).length ≤ s.length := by
  unfold trimS Lib.trimB Lib.trimLeftB Lib.trimRightB
  have h1 := (List.dropWhile_sublist (l := (List.dropWhile (fun x => x == 32) s.reverse).reverse) (fun x => x == (32 : UInt8))).length_le
  have h2 := (List.dropWhile_sublist (l := s.reverse) (fun x => x == (32 : UInt8))).length_le
  simp only [List.length_reverse] at h1 h2
  omega
/-! Numbers. -/
theorem foldl_snoc {α β : Type} (f : β → α → β) (l : List α) (a : α) (b : β) : (l ++ [a]).foldl f b = f (l.foldl f b) a := by simp
theorem digS_ne (n : Nat) : digS n ≠ [] := by
  intro h
  have : (digS n).length = Lib.nDigits n := Lib.decDigits_length n
  rw [h] at this
  have h2 := Lib.nDigits_pos n
  rw [← this] at h2
  simp at h2
theorem digS_step (n : Nat) (h : ¬ n < 10) : digS n = digS (n / 10) ++ [UInt8.ofNat (48 + n % 10)] := by
  unfold digS
  rw [Lib.decDigits, dif_neg h]
theorem digS_small (n : Nat) (h : n < 10) : digS n = [UInt8.ofNat (48 + n)] := by
  unfold digS
  rw [Lib.decDigits, dif_pos h]
theorem dig_toNat (k : Nat) (h : k < 10) : (UInt8.ofNat (48 + k)).toNat = 48 + k := by
  rw [UInt8.toNat_ofNat']
  omega
theorem valS_digS : ∀ n : Nat, valS (digS n) = n := by
  intro n
  induction n using Nat.strongRecOn with
  | ind n ih =>
    by_cases h : n < 10
    · rw [digS_small n h]
      simp only [valS, List.foldl_cons, List.foldl_nil, dig_toNat n h]
      omega
    · rw [digS_step n h]
      have := ih (n / 10) (by omega)
      unfold valS at this ⊢
      rw [foldl_snoc, this, dig_toNat _ (by omega)]
      omega
theorem digS_digs : ∀ n : Nat, allB digB (digS n) = true := by
  intro n
  induction n using Nat.strongRecOn with
  | ind n ih =>
    rw [allB_iff]
    by_cases h : n < 10
    · rw [digS_small n h]
      intro x hx
      rw [List.mem_singleton.1 hx]
      unfold digB
      rw [dig_toNat n h]
      simp; omega
    · rw [digS_step n h]
      intro x hx
      rcases List.mem_append.1 hx with hx | hx
      · exact allB_iff.1 (ih _ (by omega)) x hx
      · rw [List.mem_singleton.1 hx]
        unfold digB
        rw [dig_toNat _ (by omega)]
        simp; omega
theorem numRead_some {s : Str} {n : Nat} : numRead s = some n ↔ n ≤ 1000000 ∧ digS n = s := by
  unfold numRead
  constructor
  · intro h
    split at h
    · rename_i hc
      cases h
      exact hc
    · cases h
  · rintro ⟨h1, rfl⟩
    rw [valS_digS, if_pos ⟨h1, rfl⟩]
theorem digS_len7 (n : Nat) (h : n ≤ 1000000) : (digS n).length ≤ 7 := digS_len 6 n (by omega)
theorem numText_nat (n : Nat) (h : n ≤ 1000000) : numText (n : Int) = digS n := by
  unfold numText
  rw [if_pos (by omega)]
  rfl
theorem numRead_text (n : Nat) (h : n ≤ 1000000) : numRead (numText n) = some n := numRead_some.2 ⟨h, (numText_nat n h).symm⟩
/-- What the reference's loop comes to. -/
theorem numRead_eq (s : Str) (h : s.length ≤ 7) : numRead s = if s ≠ [] ∧ allB digB s = true ∧ numText (valS s) = s then some (valS s) else none := by
  cases hr : numRead s with
  | some n =>
    obtain ⟨h1, rfl⟩ := numRead_some.1 hr
    rw [valS_digS, if_pos ⟨digS_ne n, digS_digs n, numText_nat n h1⟩]
  | none =>
    rw [if_neg]
    rintro ⟨h1, h2, h3⟩
    have : numRead s = some (valS s) := by
      refine numRead_some.2 ?_
      unfold numText at h3
      split at h3
      · rename_i hc
        exact ⟨by omega, h3⟩
      · exact absurd h3.symm h1
    rw [this] at hr
    cases hr
/-- What Atoi makes of it. -/
theorem parse_dig : ∀ (n acc : Nat) (l : List UInt8), acc * 10 ^ Lib.nDigits n + n < 10000000000 → Lib.parseUint10 acc (digS n ++ l) = Lib.parseUint10 (acc * 10 ^ Lib.nDigits n + n) l := by
  intro n
  induction n using Nat.strongRecOn with
  | ind n ih =>
    intro acc l hn
    by_cases h : n < 10
    · rw [digS_small n h]
      simp only [List.cons_append, List.nil_append, Lib.parseUint10, dig_toNat n h]
      rw [Lib.nDigits_small h] at hn ⊢
      rw [if_pos (by omega), if_neg (by omega), if_neg (by omega)]
      congr 1
      omega
    · rw [digS_step n h, List.append_assoc]
      have e := Lib.nDigits_big h
      rw [e, Nat.pow_succ] at hn ⊢
      have hm : acc * (10 ^ Lib.nDigits (n / 10) * 10) = acc * 10 ^ Lib.nDigits (n / 10) * 10 := by rw [Nat.mul_assoc]
      rw [hm] at hn ⊢
      rw [ih (n / 10) (by omega) acc _ (by omega)]
      have hd := dig_toNat (n % 10) (by omega)
      simp only [List.cons_append, List.nil_append, Lib.parseUint10, hd]
      rw [if_pos (by omega), if_neg (by omega), if_neg (by omega)]
      congr 1
      omega
theorem atoi_dig (n : Nat) (h : n ≤ 1000000) : Lib.atoiAll (digS n) = .ok (n : Int) := by
  cases hd : digS n with
  | nil => exact absurd hd (digS_ne n)
  | cons c r =>
    have hc := allB_iff.1 (digS_digs n) c (by rw [hd]; exact List.mem_cons_self ..)
    simp only [digB, decide_eq_true_eq] at hc
    rw [Lib.atoiAll_plain c r (by omega) (by omega), ← hd]
    unfold Lib.parseMag
    rw [if_neg (digS_ne n)]
    have := parse_dig n 0 [] (by omega)
    rw [List.append_nil] at this
    rw [this]
    simp only [Lib.parseUint10, Lib.signless]
    rw [if_neg (by omega)]
    simp
theorem numRead_atoi (s : Str) (n : Int) (h : Lib.atoiAll s = .ok n) : (if 0 ≤ n ∧ n ≤ 1000000 ∧ Lib.itoa n = s then some n.toNat else none) = numRead s := by
  split
  · rename_i hc
    symm
    refine numRead_some.2 ⟨by omega, ?_⟩
    rw [← itoa_nat, ← hc.2.2]
    congr 1
    omega
  · rename_i hc
    cases hr : numRead s with
    | none => rfl
    | some m =>
      obtain ⟨h1, rfl⟩ := numRead_some.1 hr
      rw [atoi_dig m h1] at h
      obtain rfl : (m : Int) = n := by injection h
      exact absurd ⟨by omega, by omega, itoa_nat m⟩ hc
theorem numRead_noatoi (s : Str) (h : ∀ n, Lib.atoiAll s ≠ .ok n) : numRead s = none := by
  cases hr : numRead s with
  | none => rfl
  | some m =>
    obtain ⟨h1, rfl⟩ := numRead_some.1 hr
    exact absurd (atoi_dig m h1) (h m)
theorem numRead_long (s : Str) (h : 7 < s.length) : numRead s = none := by
  cases hr : numRead s with
  | none => rfl
  | some m =>
    obtain ⟨h1, rfl⟩ := numRead_some.1 hr
    have := digS_len7 m h1
    omega
/-! Words between marks. -/
def splitC (c : UInt8) : Str → List Str
  | [] => [[]]
  | b :: s => if b = c then [] :: splitC c s else match splitC c s with
    | w :: ws => (b :: w) :: ws
    | [] => [[b]]
theorem splitC_ne (c : UInt8) (s : Str) : splitC c s ≠ [] := by
  cases s with
  | nil => simp [splitC]
  | cons b s =>
    unfold splitC
    split
    · simp
    · split <;> simp
def wordsC (s : Str) : List Str := ((splitC 44 s).map trimS).filter fun w => decide (w ≠ [])
end M
set_option linter.unusedVariables false
set_option linter.unusedSimpArgs false
namespace M
open Go Go.RowKit
/-! Functions of the library that take what is borrowed, and leave new blocks in the world. -/
def FreshC (w w' : World) (c : C) : Prop := (∀ Z, c.ok w' Z) ∧ c.bare ∧ ∀ b k, c.fp b k → w.heap.size ≤ b
theorem ac_new [Bs] {P : Program} {f : FuncId} {xs : List X} {r : X}
    (h : ∀ w zl zb cs, cs.map C.er = xs → ArgsOk w zl zb cs → Same0 w → Calls P f (cs.map C.val).toArray w fun e w' => ∃ c : C, e = .returned c.val ∧ c.er = r ∧ Below w.heap.size w w' ∧ FreshC w w' c) :
    AC P f xs fun r' ps => r' = r ∧ ps = xs.map fun _ => .dead := by
  intro w zl zb cs e hA hgl
  refine (h w zl zb cs e hA fun b hb => (hgl b hb).1).mono fun e' w' ⟨c, he, hc, hb, c1, c2, c3⟩ => ?_
  have hext : Ext (fun b k => ∃ x ∈ cs, x.fp b k) w w' := ⟨hb.os, hb.tape, hb.output, hb.size, fun b hl => .inl (hb.block b hl)⟩
  refine ⟨c, cs.map fun x => .dead x.val, zl, ⟨he, by rw [List.map_map]; rfl, hext, ⟨fun x hx' => ?_, fun x hx' => ?_, fun x hx' b k hf => ?_, fun b k hz => Nat.lt_of_lt_of_le (hA.zin b k (hz.imp id fun h => h.elim)) hb.size, ?_⟩, fun x hx' b k hf => ?_, fun _ _ h => h, fun _ _ h => .inl h⟩, hc, ?_⟩
  · rcases List.mem_cons.1 hx' with rfl | hx'
    · exact c1 _
    · obtain ⟨y, _, rfl⟩ := List.mem_map.1 hx'; trivial
  · rcases List.mem_cons.1 hx' with rfl | hx'
    · exact c2
    · obtain ⟨y, _, rfl⟩ := List.mem_map.1 hx'; trivial
  · rcases List.mem_cons.1 hx' with rfl | hx'
    · have h1 := c3 b k hf
      exact ⟨fun hz => by have := hA.zin b k (.inl hz); omega, fun hz => hz⟩
    · obtain ⟨y, _, rfl⟩ := List.mem_map.1 hx'; exact hf.elim
  · refine List.pairwise_cons.2 ⟨fun x hx b k hf hf' => ?_, ?_⟩
    · obtain ⟨y, _, rfl⟩ := List.mem_map.1 hx; exact hf'
    · refine List.pairwise_iff_getElem.2 fun i j hi hj _ b k hf => ?_
      obtain ⟨y, _, hy⟩ := List.mem_map.1 (List.getElem_mem hi)
      rw [← hy] at hf
      exact hf.elim
  · rcases List.mem_cons.1 hx' with rfl | hx'
    · exact .inr (c3 b k hf)
    · obtain ⟨y, _, rfl⟩ := List.mem_map.1 hx'; exact hf.elim
  · rw [← e]
    simp [List.map_map, Function.comp_def, C.er]
def newO (f0 : FuncId) (g : List X → Option X) : Ora := fun f xs => if f = f0 then (match g xs with
  | some r => some (r, xs.map fun _ => .dead)
  | none => none) else none
theorem newO_sound [Bs] {P : Program} {f0 : FuncId} {g : List X → Option X}
    (h : ∀ xs r, g xs = some r → ∀ w zl zb cs, cs.map C.er = xs → ArgsOk w zl zb cs → Same0 w → Calls P f0 (cs.map C.val).toArray w fun e w' => ∃ c : C, e = .returned c.val ∧ c.er = r ∧ Below w.heap.size w w' ∧ FreshC w w' c) : (newO f0 g).Sound P := fun f xs o e => by
  unfold newO at e
  split at e
  · rename_i hf
    subst hf
    split at e
    · rename_i r hr
      cases e
      exact ac_new (h xs r hr)
    · cases e
  · cases e
theorem er_str0 {c : C} {s : ByteArray} (h : c.er = .str s) : c = .str s := by cases c <;> simp [C.er] at h; rw [h]
theorem er_int0 {c : C} {k : IntKind} {n : Int} (h : c.er = .int k n) : c = .int k n := by cases c <;> simp [C.er] at h; rw [h.1, h.2]
theorem er_bool0 {c : C} {b : Bool} (h : c.er = .bool b) : c = .bool b := by cases c <;> simp [C.er] at h; rw [h]
theorem map_nil {l : List C} (h : l.map C.er = []) : l = [] := by simpa using h
theorem map_cons {l : List C} {x : X} {xs : List X} (h : l.map C.er = x :: xs) : ∃ c cs, l = c :: cs ∧ c.er = x ∧ cs.map C.er = xs := by
  cases l with
  | nil => simp at h
  | cons c cs => simp at h; exact ⟨c, cs, rfl, h.1, h.2⟩
theorem fresh_str {w w' : World} {s : ByteArray} (h : s.size ≤ 9223372036854775807) : FreshC w w' (.str s) := ⟨fun _ => h, trivial, fun _ _ h => h.elim⟩
theorem fresh_int {w w' : World} {k : IntKind} {n : Int} : FreshC w w' (.int k n) := ⟨fun _ => trivial, trivial, fun _ _ h => h.elim⟩
theorem fresh_bool {w w' : World} {b : Bool} : FreshC w w' (.bool b) := ⟨fun _ => trivial, trivial, fun _ _ h => h.elim⟩
/-- Several plain values. -/
def tupC (l : List C) : C := .tup l.length fun j => l.getD j (.dead undef)
theorem range_getD0 {α β : Type} (l : List α) (d : α) (g : α → β) : ((List.range l.length).map fun j => g (l.getD j d)) = l.map g := by
  apply List.ext_getElem
  · simp
  · intro i h1 h2
    simp at h1
    simp [h1]
theorem tupC_er (l : List C) : (tupC l).er = .tup (l.map C.er) := by
  show X.tup _ = _
  rw [range_getD0 l _ C.er]
theorem tupC_val (l : List C) : (tupC l).val = .tuple (l.map C.val).toArray := by
  show Value.tuple _ = _
  rw [range_getD0 l _ C.val]
theorem fresh_tup {w w' : World} {l : List C} (h : ∀ c ∈ l, FreshC w w' c ∧ c.notup ∧ ∀ b k, ¬ c.fp b k) : FreshC w w' (tupC l) := by
  have hm : ∀ j, j < l.length → l.getD j (.dead undef) ∈ l := fun j hj => by simp [List.getD, hj]
  refine ⟨fun Z => ⟨fun j hj => ⟨(h _ (hm j hj)).2.1, (h _ (hm j hj)).1.1 Z⟩, fun j hj b k hf => ((h _ (hm j hj)).2.2 b k hf).elim⟩, fun j hj => (h _ (hm j hj)).1.2.1, fun b k hf => ?_⟩
  obtain ⟨j, hj, hf⟩ := hf
  exact ((h _ (hm j hj)).2.2 b k hf).elim
/-- A new row of strings. -/
theorem fresh_row {w w' : World} {g : Nat} {t : TypeId} {l : List ByteArray} (hg : w.heap.size ≤ g) (hb : w'.heap[g]? = some (.cells (l.map Value.string).toArray t (0, 0))) (hs : ∀ s ∈ l, s.size ≤ 9223372036854775807) :
    FreshC w w' (.row .own 1 (some (g, 0, none)) l.length l.length fun i _ => .str (l.getD i ByteArray.empty)) := by
  have hm : ∀ j, j < l.length → l.getD j ByteArray.empty ∈ l := fun j hj => by simp [List.getD, hj]
  refine ⟨fun Z => ⟨Nat.le_refl _, fun i j hi hj => ⟨g, 0, rfl, ?_, fun h => absurd rfl h⟩, fun i j hi hj => ⟨trivial, trivial, trivial, hs _ (hm i hi)⟩, fun _ => .inr ⟨g, 0, _, t, (0, 0), rfl, hb, ?_, fun k _ _ => ?_⟩, fun i j hi hj b k hf => hf.elim⟩, trivial, fun b k hf => ?_⟩
  · obtain rfl : j = 0 := by omega
    simp only [World.cell?, hb]
    simp [C.val, hi, Go.Value.oneCell']
  · simp
  · simp [World.frozen?, hb]
  · obtain ⟨_, h | ⟨i, j, _, _, h⟩⟩ := hf
    · obtain ⟨o, h⟩ := h
      have hgb := congrArg Prod.fst (Option.some.inj h)
      have hgb : g = b := hgb; exact hgb ▸ hg
    · exact h.elim
theorem row_er (l : List ByteArray) (g cap : Nat) : (C.row .own 1 (some (g, 0, none)) l.length cap fun i _ => .str (l.getD i ByteArray.empty)).er = .row .own 1 (l.map fun s => [.str s]) := by
  show X.row _ _ _ = _
  congr 1
  have := range_getD0 l ByteArray.empty fun s => [X.str s]
  rw [← this]
  rfl
/-- A borrowed row. -/
theorem er_row0 {c : C} {m : Md} {z : Nat} {xs : List (List X)} (h : c.er = .row m z xs) : ∃ A len cap e, c = .row m z A len cap e ∧ len = xs.length ∧ ∀ i, i < len → xs[i]? = some ((List.range z).map fun j => (e i j).er) := by
  cases c with
  | row m' z' A len cap e =>
    simp only [C.er, X.row.injEq] at h
    obtain ⟨rfl, rfl, h⟩ := h
    refine ⟨A, len, cap, e, rfl, by rw [← h]; simp, fun i hi => ?_⟩
    rw [← h]
    simp [hi]
  | _ => simp [C.er] at h
end M
set_option linter.unusedVariables false
set_option linter.unusedSimpArgs false
namespace M
open Go
/-! What functions of the library compute. -/
def strX (s : Str) : X := .str ⟨s.toArray⟩
def rowX1 (l : List Str) : X := .row .own 1 (l.map eS)
def trimG : List X → Option X
  | [.str s, .str c] => if c.data.toList = [32] ∧ s.size ≤ 9223372036854775807 then some (strX (trimS s.data.toList)) else none
  | _ => none
def splitG : List X → Option X
  | [.str s, .str c] => if s.size < 4294967281 ∧ 1 ≤ c.size then some (rowX1 (Lib.split s.data.toList c.data.toList)) else none
  | _ => none
def cutG : List X → Option X
  | [.str s, .str c] => if s.size < 4294967281 then some (.tup [strX (Lib.cut s.data.toList c.data.toList).1, strX (Lib.cut s.data.toList c.data.toList).2.1, .bool (Lib.cut s.data.toList c.data.toList).2.2]) else none
  | _ => none
def hasPrefixG : List X → Option X
  | [.str s, .str c] => some (.bool (Lib.hasPrefix s.data.toList c.data.toList))
  | _ => none
def cutPrefixG : List X → Option X
  | [.str s, .str c] => if s.size ≤ 9223372036854775807 then some (.tup [strX (Lib.trimPrefix s.data.toList c.data.toList), .bool (Lib.hasPrefix s.data.toList c.data.toList)]) else none
  | _ => none
def numReadG : List X → Option X
  | [.str s] => if s.size ≤ 9223372036854775807 then some (match numRead s.data.toList with
    | some n => .tup [.int .i64 n, .bool true]
    | none => .tup [.int .i64 0, .bool false]) else none
  | _ => none
/-- The lines of fields. -/
def fieldLine (f : Fld) : Str := f.name ++ [58, 32] ++ f.value ++ [13, 10]
def fieldsText (l : List Fld) : Str := l.flatMap fieldLine
def fldsOf : List (List X) → Option (List Fld)
  | [] => some []
  | [.str a, .str b] :: r => (fldsOf r).map fun l => ⟨a.data.toList, b.data.toList⟩ :: l
  | _ => none
def fieldsTextG : List X → Option X
  | [.row .bor 2 rows] => (match fldsOf rows with
    | some l => if (fieldsText l).length ≤ 140737488355328 ∧ l.length ≤ 140737488355328 then some (strX (fieldsText l)) else none
    | none => none)
  | _ => none
theorem fldsOf_map : ∀ l : List Fld, fldsOf (l.map eFld) = some l
  | [] => rfl
  | f :: l => by simp [fldsOf, fldsOf_map l]
def strsOf : List (List X) → Option (List Str)
  | [] => some []
  | [.str a] :: r => (strsOf r).map fun l => a.data.toList :: l
  | _ => none
theorem strsOf_map : ∀ l : List Str, strsOf (l.map eS) = some l
  | [] => rfl
  | f :: l => by simp [strsOf, strsOf_map l]
def joinG : List X → Option X
  | [.row .bor 1 rows, .str sep] => (match strsOf rows with
    | some l => if (Lib.join l sep.data.toList).length ≤ 140737488355328 ∧ l.length ≤ 140737488355328 then some (strX (Lib.join l sep.data.toList)) else none
    | none => none)
  | _ => none
/-! The shelf's pieces and ours. -/
theorem count_nil (c : UInt8) : Lib.count [] [c] = 0 := by rw [Lib.count_one]; rfl
theorem split_one (c : UInt8) : ∀ s : Str, Lib.split s [c] = splitC c s := by
  have key : ∀ (n : Nat) (s : Str), s.length ≤ n → Lib.splitK [c] 0 (Lib.count s [c]) s = splitC c s := by
    intro n
    induction n with
    | zero =>
      intro s hs
      obtain rfl : s = [] := List.length_eq_zero_iff.1 (by omega)
      rw [count_nil]
      rfl
    | succ n ih =>
      intro s hs
      cases s with
      | nil => rw [count_nil]; rfl
      | cons b s =>
        simp at hs
        have ih' := ih s (by omega)
        by_cases hb : b = c
        · subst hb
          rw [Lib.count_cons_eq, Nat.add_comm]
          have hi : Lib.index (b :: s) [b] = 0 := Lib.index_first (i := 0) (Nat.zero_le _) (by simp [Lib.occAt]) (fun _ h => absurd h (Nat.not_lt_zero _))
          simp only [Lib.splitK, hi, splitC]
          simp [ih']
        · rw [Lib.count_cons_ne _ _ _ hb]
          have hnext : Lib.index (b :: s) [c] = if Lib.index s [c] = -1 then -1 else Lib.index s [c] + 1 := by
            have h := Lib.index_drop (s := b :: s) (sub := [c]) (i := 1) (fun j hj => by
              obtain rfl : j = 0 := by omega
              simp [Lib.occAt, List.isPrefixOf, Ne.symm hb]) (by simp)
            simp at h
            exact h
          rw [splitC, if_neg hb, ← ih']
          cases hk : Lib.count s [c] with
          | zero => simp [Lib.splitK]
          | succ k =>
            simp only [Lib.splitK, hnext]
            by_cases h1 : Lib.index s [c] = -1
            · simp [h1]
            · have h0 : 0 ≤ Lib.index s [c] := by
                have : -1 ≤ Lib.index s [c] := Lib.index_ge _ _
                omega
              have h2 : ¬ Lib.index s [c] + 1 = -1 := by omega
              have h3 : (Lib.index s [c] + 1).toNat = (Lib.index s [c]).toNat + 1 := by omega
              simp [h1, h2, h3]
  intro s
  exact key s.length s (Nat.le_refl _)
/-- What stands ahead of the first c, and what behind it. -/
def cutC (c : UInt8) : Str → Option (Str × Str)
  | [] => none
  | b :: s => if b = c then some ([], s) else (cutC c s).map fun p => (b :: p.1, p.2)
theorem index_nil_one (c : UInt8) : Lib.index [] [c] = -1 := rfl
theorem index_cons (b c : UInt8) (s : Str) : Lib.index (b :: s) [c] = if b = c then 0 else if Lib.index s [c] = -1 then -1 else Lib.index s [c] + 1 := by
  by_cases hb : b = c
  · subst hb
    rw [if_pos rfl]
    exact Lib.index_first (i := 0) (Nat.zero_le _) (by simp [Lib.occAt]) (fun _ h => absurd h (Nat.not_lt_zero _))
  · rw [if_neg hb]
    have h := Lib.index_drop (s := b :: s) (sub := [c]) (i := 1) (fun j hj => by
      obtain rfl : j = 0 := by omega
      simp [Lib.occAt, List.isPrefixOf, Ne.symm hb]) (by simp)
    simp at h
    exact h
theorem cut_one (c : UInt8) : ∀ s : Str, Lib.cut s [c] = match cutC c s with
    | some p => (p.1, p.2, true)
    | none => (s, [], false)
  | [] => rfl
  | b :: s => by
    have ih := cut_one c s
    have h0 : -1 ≤ Lib.index s [c] := Lib.index_ge _ _
    unfold Lib.cut at ih ⊢
    rw [index_cons, cutC]
    by_cases hb : b = c
    · simp [hb]
    · simp only [hb, if_false]
      by_cases h1 : Lib.index s [c] = -1
      · rw [h1] at ih
        simp only [h1]
        cases hc : cutC c s with
        | none => simp
        | some p => rw [hc] at ih; simp at ih
      · have h2 : 0 ≤ Lib.index s [c] := by omega
        rw [if_pos h2] at ih
        rw [if_neg h1, if_pos (by omega)]
        have h3 : (Lib.index s [c] + 1).toNat = (Lib.index s [c]).toNat + 1 := by omega
        cases hc : cutC c s with
        | none => rw [hc] at ih; simp at ih
        | some p =>
          rw [hc] at ih
          simp at ih
          simp [h3, ← ih.1, ← ih.2]
end M
set_option linter.unusedVariables false
set_option linter.unusedSimpArgs false
namespace M
open Go
/-! More loops. -/
def untilI {β : Type} (p : β → Bool) (l : List β) : Nat := (l.takeWhile fun b => !p b).length
/-- A loop that ends at the first such element, or at the end. -/
theorem loop_until {β : Type} {f : Slots → Res} (l : List β) (st : Nat → Slots) (p : β → Bool) (E : Nat → Slots) {x : Nat}
    (h : ∀ i b, l[i]? = some b → i < l.length → f (st i) = if p b = true then some (.exit x, E i) else some (.normal, st (i + 1)))
    (hend : f (st l.length) = some (.exit x, E l.length)) : loopW f (st 0) = some (.exit x, E (untilI p l)) := by
  suffices H : ∀ (r : List β) (i : Nat), l.drop i = r → i ≤ l.length → loopW f (st i) = some (.exit x, E (i + untilI p r)) by
    have := H l 0 rfl (Nat.zero_le _)
    rwa [Nat.zero_add] at this
  intro r
  induction r with
  | nil =>
    intro i hr hi
    have : i = l.length := by
      have := congrArg List.length hr
      simp at this
      omega
    subst this
    rw [loopW_eq, hend]
    rfl
  | cons b r ih =>
    intro i hr hi
    have hb : l[i]? = some b := by
      have := congrArg (fun t : List β => t[0]?) hr
      simpa using this
    have hlt : i < l.length := (List.getElem?_eq_some_iff.1 hb).1
    have hd : l.drop (i + 1) = r := by
      have := congrArg List.tail hr
      simpa using this
    rw [loopW_eq, h i b hb hlt]
    unfold untilI
    by_cases hp : p b = true
    · simp [hp, thenA]
    · have := ih (i + 1) hd hlt
      simp only [hp]
      have e : i + 1 + untilI p r = i + (untilI p r + 1) := by omega
      rw [e] at this
      simp [hp, thenA, this, untilI]
theorem untilI_le {β : Type} (p : β → Bool) (l : List β) : untilI p l ≤ l.length := by
  unfold untilI
  exact (List.takeWhile_sublist _).length_le
theorem untilI_before {β : Type} (p : β → Bool) : ∀ (l : List β) (j : Nat) (b : β), j < untilI p l → l[j]? = some b → p b = false
  | [], j, b, h, _ => by simp [untilI] at h
  | a :: l, j, b, h, hb => by
    unfold untilI at h
    rw [List.takeWhile_cons] at h
    by_cases hp : p a = true
    · simp [hp] at h
    · simp only [hp, Bool.not_false, if_true, List.length_cons] at h
      cases j with
      | zero => simp at hb; subst hb; simpa using hp
      | succ j => exact untilI_before p l j b (by unfold untilI; omega) (by simpa using hb)
theorem untilI_at {β : Type} (p : β → Bool) : ∀ (l : List β) (b : β), l[untilI p l]? = some b → p b = true
  | [], b, h => by simp at h
  | a :: l, b, h => by
    unfold untilI at h
    rw [List.takeWhile_cons] at h
    by_cases hp : p a = true
    · simp [hp] at h; subst h; exact hp
    · simp only [hp, Bool.not_false, if_true, List.length_cons, List.getElem?_cons_succ] at h
      exact untilI_at p l b h
/-- Words, gathered from the left. -/
def goW (c : UInt8) (f : Str → List Str) (s : Str) (i : Nat) (g : List Str × Nat) (b : Option UInt8) : List Str × Nat := match b with
  | some b => if b = c then (g.1 ++ f ((s.take i).drop g.2), i + 1) else g
  | none => (g.1 ++ f ((s.take i).drop g.2), i + 1)
theorem splitC_append (c : UInt8) : ∀ (cur rest : Str), (∀ b ∈ cur, b ≠ c) → splitC c (cur ++ rest) = match splitC c rest with
    | w :: ws => (cur ++ w) :: ws
    | [] => [cur]
  | [], rest, _ => by
    cases h : splitC c rest with
    | nil => exact absurd h (splitC_ne c rest)
    | cons w ws => simpa using h
  | a :: cur, rest, h => by
    rw [List.cons_append, splitC, if_neg (h a (List.mem_cons_self ..)), splitC_append c cur rest fun b hb => h b (List.mem_cons_of_mem _ hb)]
    cases splitC c rest <;> simp
theorem splitC_none (c : UInt8) (cur : Str) (h : ∀ b ∈ cur, b ≠ c) : splitC c cur = [cur] := by
  have := splitC_append c cur [] h
  simpa [splitC] using this
theorem take_mid : ∀ (p cur rest : Str), ((p ++ (cur ++ rest)).take (p.length + cur.length)).drop p.length = cur
  | [], cur, rest => by simp
  | a :: p, cur, rest => by
    have := take_mid p cur rest
    simp only [List.length_cons, List.cons_append, show p.length + 1 + cur.length = p.length + cur.length + 1 by omega, List.take_succ_cons, List.drop_succ_cons]
    exact this
theorem foldSplit (c : UInt8) (f : Str → List Str) (s : Str) : foldI (goW c f s) 0 (s.map some ++ [none]) ([], 0) = ((splitC c s).flatMap f, s.length + 1) := by
  suffices H : ∀ (rest p cur : Str) (out : List Str), s = p ++ cur ++ rest → (∀ b ∈ cur, b ≠ c) → foldI (goW c f s) (p.length + cur.length) (rest.map some ++ [none]) (out, p.length) = (out ++ (splitC c (cur ++ rest)).flatMap f, s.length + 1) by
    have := H s [] [] [] rfl (by simp)
    simpa using this
  intro rest
  induction rest with
  | nil =>
    intro p cur out hs hc
    simp only [List.append_nil] at hs ⊢
    rw [splitC_none c cur hc]
    subst hs
    have e1 := take_mid p cur []
    rw [List.append_nil] at e1
    simp [foldI, goW, e1]
  | cons b rest ih =>
    intro p cur out hs hc
    simp only [List.map_cons, List.cons_append, foldI]
    by_cases hb : b = c
    · subst hb
      have e1 : (s.take (p.length + cur.length)).drop p.length = cur := by subst hs; have := take_mid p cur (b :: rest); rwa [← List.append_assoc] at this
      have := ih (p ++ cur ++ [b]) [] (out ++ f cur) (by simp [hs]) (by simp)
      simp only [List.length_append, List.length_cons, List.length_nil, List.nil_append] at this
      simp only [goW, if_true, e1]
      rw [show p.length + cur.length + 1 = p.length + cur.length + (0 + 1) + 0 by omega, this, splitC_append b cur (b :: rest) hc]
      simp [splitC]
    · have := ih p (cur ++ [b]) out (by simp [hs]) (by
        intro x hx
        rcases List.mem_append.1 hx with hx | hx
        · exact hc x hx
        · rw [List.mem_singleton.1 hx]; exact hb)
      simp only [List.length_append, List.length_cons, List.length_nil] at this
      simp only [goW, hb, if_false]
      rw [show p.length + cur.length + 1 = p.length + (cur.length + (0 + 1)) by omega, this]
      simp
theorem wordsC_eq (s : Str) : wordsC s = (splitC 44 s).flatMap fun w => if trimS w ≠ [] then [trimS w] else [] := by
  unfold wordsC
  induction splitC 44 s with
  | nil => rfl
  | cons w l ih =>
    simp only [List.map_cons, List.filter_cons, List.flatMap_cons, ← ih]
    by_cases h : trimS w = [] <;> simp [h]
@[simp] theorem eU_lam (l : List UInt8) : l.map (fun b : UInt8 => [X.int IntKind.u8 (b.toNat : Int)]) = l.map eU := rfl
@[simp] theorem u8s_eU (l : List UInt8) : u8s (l.map eU) = some l := u8s_map l
theorem sum_split (c : UInt8) : ∀ s : Str, ((splitC c s).map List.length).sum + (splitC c s).length = s.length + 1
  | [] => rfl
  | b :: s => by
    have := sum_split c s
    unfold splitC
    split
    · simp; omega
    · cases h : splitC c s with
      | nil => exact absurd h (splitC_ne c s)
      | cons w ws => rw [h] at this; simp at this ⊢; omega
theorem splitC_len (c : UInt8) (s : Str) : (splitC c s).length ≤ s.length + 1 := by have := sum_split c s; omega
theorem splitC_mem (c : UInt8) (s : Str) : ∀ w ∈ splitC c s, w.length ≤ s.length := by
  intro w hw
  have h := sum_split c s
  have h1 : w.length + 1 ≤ ((splitC c s).map List.length).sum + (splitC c s).length := by
    clear h
    revert hw
    generalize splitC c s = l
    intro hw
    induction l with
    | nil => cases hw
    | cons x l ih =>
      rcases List.mem_cons.1 hw with rfl | hw
      · simp; omega
      · have := ih hw; simp; omega
  omega
theorem lowB_add (b : UInt8) (h : 65 ≤ b.toNat ∧ b.toNat ≤ 90) : (b + 32).toNat = b.toNat + 32 := by
  rw [UInt8.toNat_add]
  have : (32 : UInt8).toNat = 32 := rfl
  omega
theorem wrap8_id {n : Int} (h1 : 0 ≤ n) (h2 : n < 256) : IntKind.u8.wrap n = n := wrap8_id' h1 h2
end M
namespace M
theorem flat_le_len {β γ : Type} (φ : β → List γ) (hφ : ∀ b, (φ b).length ≤ 1) (l : List β) (i : Nat) : ((l.take i).flatMap φ).length ≤ i := by
  induction l generalizing i with
  | nil => simp
  | cons b l ih =>
    cases i with
    | zero => simp
    | succ i =>
      have := ih i
      have := hφ b
      simp only [List.take_succ_cons, List.flatMap_cons, List.length_append]
      omega
end M
namespace M
@[simp] theorem cast_nlt (i : Nat) : ((i : Int) < 0) = False := by simp
end M
namespace M
/-- A row, mapped up to a place. -/
def mapTo {α : Type} (f : α → α) (l : List α) (i : Nat) : List α := (l.take i).map f ++ l.drop i
@[simp] theorem mapTo_len {α : Type} (f : α → α) (l : List α) (i : Nat) : (mapTo f l i).length = l.length := by simp [mapTo]; omega
theorem mapTo_zero {α : Type} (f : α → α) (l : List α) : mapTo f l 0 = l := by simp [mapTo]
theorem mapTo_end {α : Type} (f : α → α) (l : List α) : mapTo f l l.length = l.map f := by simp [mapTo]
theorem mapTo_get {α : Type} (f : α → α) (l : List α) (i : Nat) (h : i < l.length) : (mapTo f l i)[i]? = some l[i] := by
  unfold mapTo
  rw [List.getElem?_append_right (by simp; omega)]
  have : i - ((l.take i).map f).length = 0 := by simp; omega
  rw [this]
  simp [h]
theorem mapTo_getE {α : Type} (f : α → α) (l : List α) (i : Nat) (h : i < l.length) (h' : i < (mapTo f l i).length) : (mapTo f l i)[i] = l[i] := by
  have := mapTo_get f l i h
  rw [List.getElem?_eq_getElem h'] at this
  exact Option.some.inj this
theorem mapTo_set {α : Type} (f : α → α) (l : List α) (i : Nat) (h : i < l.length) : (mapTo f l i).set i (f l[i]) = mapTo f l (i + 1) := by
  unfold mapTo
  rw [List.set_append_right _ _ (by simp; omega), List.drop_eq_getElem_cons h]
  have : i - ((l.take i).map f).length = 0 := by simp; omega
  rw [this, List.take_succ_eq_append_getElem h]
  simp only [List.set_cons_zero, List.map_append, List.map_cons, List.map_nil, List.append_assoc, List.cons_append, List.nil_append]
end M
namespace M
@[simp] theorem mdLL_take (m : Md) : ∀ (i : Nat) (l : List (List X)), X.mdLL m (l.take i) = (X.mdLL m l).take i
  | 0, l => by simp [X.mdLL]
  | i + 1, [] => by simp [X.mdLL]
  | i + 1, a :: l => by simp [X.mdLL, mdLL_take m i l]
@[simp] theorem mdLL_drop (m : Md) : ∀ (i : Nat) (l : List (List X)), X.mdLL m (l.drop i) = (X.mdLL m l).drop i
  | 0, l => by simp
  | i + 1, [] => by simp [X.mdLL]
  | i + 1, a :: l => by simp [X.mdLL, mdLL_drop m i l]
theorem clean_all : ∀ (l : List (List X)), X.clean.cleanLL l = true ↔ ∀ e ∈ l, X.clean.cleanL e = true
  | [] => by simp [X.clean.cleanLL]
  | a :: l => by simp [X.clean.cleanLL, clean_all l]
theorem clean_take {i : Nat} {l : List (List X)} (h : X.clean.cleanLL l = true) : X.clean.cleanLL (l.take i) = true := by
  rw [clean_all] at h ⊢
  exact fun e he => h e (List.mem_of_mem_take he)
theorem clean_drop {i : Nat} {l : List (List X)} (h : X.clean.cleanLL l = true) : X.clean.cleanLL (l.drop i) = true := by
  rw [clean_all] at h ⊢
  exact fun e he => h e (List.mem_of_mem_drop he)
end M
set_option linter.unusedVariables false
set_option linter.unusedSimpArgs false
namespace M
open Go
/-! What the program computes, on its own data. -/
abbrev nmCL : Str := [99, 111, 110, 116, 101, 110, 116, 45, 108, 101, 110, 103, 116, 104]
abbrev nmCC : Str := [99, 97, 99, 104, 101, 45, 99, 111, 110, 116, 114, 111, 108]
abbrev nmTag : Str := [101, 116, 97, 103]
abbrev nmVary : Str := [118, 97, 114, 121]
abbrev nmAge : Str := [97, 103, 101]
abbrev nmInm : Str := [105, 102, 45, 110, 111, 110, 101, 45, 109, 97, 116, 99, 104]
theorem wL_get {α : Type} {w : α → Nat} {l : List α} {i : Nat} (h : i < l.length) : w l[i] ≤ wL w l := wL_mem (List.getElem_mem h)
theorem wS_mem {l : List Str} {a : Str} (h : a ∈ l) : a.length ≤ wL wS l := wL_mem (w := wS) h
theorem wFld_mem {l : List Fld} {a : Fld} (h : a ∈ l) : a.name.length + a.value.length ≤ wL wFld l := wL_mem (w := wFld) h
def atF (fs : List Fld) (n : Str) : Option (Nat × Fld) := firstI (fun f => decide (f.name = n)) 0 fs
def atI (o : Option (Nat × Fld)) : Int := o.elim (-1) fun x => (x.1 : Int)
def gtF (fs : List Fld) (n : Str) : Option Str := (atF fs n).map fun x => x.2.value
theorem atF_some {fs : List Fld} {n : Str} {i : Nat} {f : Fld} (h : atF fs n = some (i, f)) : ∃ hi : i < fs.length, fs[i] = f ∧ f.name = n := by
  obtain ⟨_, h2, h3⟩ := firstI_some h
  simp at h2 h3
  obtain ⟨hi, e⟩ := List.getElem?_eq_some_iff.1 h2
  exact ⟨hi, e, h3⟩
theorem gtF_len (fs : List Fld) (n : Str) : ((gtF fs n).getD []).length ≤ wL wFld fs := by
  unfold gtF
  cases h : atF fs n with
  | none => simp
  | some x =>
    obtain ⟨i, f⟩ := x
    obtain ⟨hi, rfl, _⟩ := atF_some h
    have := wFld_mem (List.getElem_mem hi)
    simp
    omega
def fldP (fs : List Fld) (x : Fld × Nat) : Bool := tokenOk x.1.name && valueOk x.1.value && decide (atI (atF fs x.1.name) = x.2) && !decide (x.1.name = nmCL)
def fieldsOk (fs : List Fld) : Bool := allB (fldP fs) fs.zipIdx && decide ((fs.length : Int) ≤ 8)
def putF (fs : List Fld) (n v : Str) : List Fld := match atF fs n with
  | some x => fs.set x.1 ⟨x.2.name, v⟩
  | none => fs ++ [⟨n, v⟩]
def dropF (fs : List Fld) (n : Str) : List Fld := match atF fs n with
  | some x => fs.eraseIdx x.1
  | none => fs
theorem sum_map_set {α : Type} (w : α → Nat) : ∀ (l : List α) (i : Nat) (a : α) (h : i < l.length), ((l.set i a).map w).sum + w l[i] = (l.map w).sum + w a
  | b :: l, 0, a, _ => by simp; omega
  | b :: l, i + 1, a, h => by
    have := sum_map_set w l i a (by simpa using h)
    simp at this ⊢; omega
theorem putF_w (fs : List Fld) (n v : Str) : wL wFld (putF fs n v) ≤ wL wFld fs + n.length + v.length + 1 := by
  unfold putF
  cases h : atF fs n with
  | none => simp [wL, wFld]; omega
  | some x =>
    obtain ⟨i, f⟩ := x
    obtain ⟨hi, rfl, h3⟩ := atF_some h
    have := sum_map_set wFld fs i ⟨fs[i].name, v⟩ hi
    simp only [wL, List.length_set]
    simp only [wFld] at this ⊢
    omega
theorem putF_len (fs : List Fld) (n v : Str) : (putF fs n v).length ≤ fs.length + 1 := by
  unfold putF
  cases h : atF fs n with
  | none => simp
  | some x => simp
def respOk (r : Rsp) : Bool := decide (100 ≤ r.status ∧ r.status ≤ 599) && fieldsOk r.fields && decide ((r.body.length : Int) ≤ 120)
def reqOk (q : Rq) : Bool := decide (1 ≤ q.method ∧ q.method ≤ 4) && pathOk q.path && fieldsOk q.fields && decide ((q.body.length : Int) ≤ 120)
/-! Ages. -/
def within (n : Int) : Int := max 0 (min n 1000000)
def plus (a b : Int) : Int := within (within a + within b)
def since (t now : Int) : Int := if now ≤ t then 0 else min (now - t) 1000000
def ageOf (fs : List Fld) : Int := match gtF fs nmAge with
  | some v => match numRead v with
    | some n => n
    | none => 1000000
  | none => 0
def ageAt (fs : List Fld) (t now : Int) : Int := plus (ageOf fs) (since t now)
/-! What an answer hangs on. -/
def varyOf (fs : List Fld) : List Str := (wordsC ((gtF fs nmVary).getD [])).map lowS
def namesOk (l : List Str) : Bool := allB tokenOk l && decide ((l.length : Int) ≤ 4)
def sameQ (q : Rq) (fs : List Fld) : Bool := (gtF q.fields nmInm).isSome && (gtF fs nmTag).isSome && decide ((gtF q.fields nmInm).getD [] = (gtF fs nmTag).getD [])
def shortB (f : Fld) : Bool := decide (f.name = nmTag) || decide (f.name = nmVary) || decide (f.name = nmCC)
def shortR (r : Rsp) : Rsp := ⟨304, r.fields.filter shortB, []⟩
/-! Objects, bans. -/
def objOk (o : Ob) : Bool := respOk o.resp && pathOk o.path && decide (0 ≤ o.t ∧ o.t ≤ 1000000) && namesOk o.names && decide (o.names = varyOf o.resp.fields) && decide (o.values.length = o.names.length) && allB valueOk o.values
def banOk (b : Bn) : Bool := decide (0 ≤ b.t ∧ b.t ≤ 1000000) && (if b.kind = 1 ∨ b.kind = 2 then pathOk b.a && decide (b.b = []) else if b.kind = 3 then tokenOk b.a && valueOk b.b else false)
def hitsB (b : Bn) (o : Ob) : Bool := decide (o.t ≤ b.t) && banOk b && objOk o && (if b.kind = 1 then decide (o.path = b.a) else if b.kind = 2 then b.a.isPrefixOf o.path else decide (gtF o.resp.fields b.a = some b.b))
def hitsAny (l : List Bn) (o : Ob) : Bool := l.any fun b => hitsB b o
/-! Disks. -/
def okW (w : Wr) : Bool := decide (0 ≤ w.at_ ∧ w.at_ ≤ 19)
def okD (d : Dsk) : Bool := allB okW d.pending && decide ((d.cells.length : Int) = 20) && decide ((d.pending.length : Int) ≤ 16)
/-! Shelves. -/
def prevSeq (l : List Kp) (i : Nat) : Int := if i = 0 then 0 else (l[i - 1]?.map fun k => k.seq).getD 0
def kpP (S : Int) (l : List Kp) (x : Kp × Nat) : Bool := objOk x.1.obj && decide (5 ≤ x.1.at_ ∧ x.1.at_ ≤ 19) && allB (fun y => decide ¬ y.at_ = x.1.at_) (l.take x.2) && decide (prevSeq l x.2 < x.1.seq) && decide (x.1.seq < S)
def kpS (S : Int) (l : List Kp) (x : Kp × Nat) : Bool := objOk x.1.obj && decide (5 ≤ x.1.at_ ∧ x.1.at_ ≤ 19) && decide (1 ≤ x.1.seq ∧ x.1.seq ≤ S - 1) && decide (x.2 = 0 ∨ prevSeq l x.2 < x.1.seq) && allB (fun y => decide ¬ y.at_ = x.1.at_) (l.take x.2)
def objsOk (S : Int) (l : List Kp) : Bool := allB (kpP S l) l.zipIdx
theorem prevSeq_succ (l : List Kp) (i : Nat) (h : i < l.length) : prevSeq l (i + 1) = l[i].seq := by simp [prevSeq, h]
theorem kpS_eq (S : Int) (l : List Kp) : allB (kpS S l) l.zipIdx = objsOk S l := by
  unfold objsOk
  rw [Bool.eq_iff_iff, allB_iff, allB_iff]
  have hm : ∀ x ∈ l.zipIdx, ∃ h : x.2 < l.length, x.1 = l[x.2] := fun x hx => by
    obtain ⟨i, hi, rfl⟩ := List.getElem_of_mem hx
    simp at hi
    exact ⟨by simpa using hi, by simp⟩
  have hz : ∀ i (h : i < l.length), (l[i], i) ∈ l.zipIdx := fun i h => by
    have : (l.zipIdx)[i]'(by simpa using h) = (l[i], i) := by simp
    rw [← this]; exact List.getElem_mem _
  constructor
  · intro h x hx
    have h1 := h x hx
    simp only [kpS, kpP, Bool.and_eq_true, decide_eq_true_eq] at h1 ⊢
    obtain ⟨⟨⟨⟨a, b⟩, c⟩, d⟩, e⟩ := h1
    refine ⟨⟨⟨⟨a, b⟩, e⟩, ?_⟩, by omega⟩
    rcases d with d | d
    · rw [d]
      have : prevSeq l 0 = 0 := rfl
      omega
    · exact d
  · intro h
    have pos : ∀ i (hi : i < l.length), 1 ≤ l[i].seq := by
      intro i
      induction i with
      | zero =>
        intro hi
        have h1 := h _ (hz 0 hi)
        simp only [kpP, Bool.and_eq_true, decide_eq_true_eq] at h1
        have : prevSeq l 0 = 0 := rfl
        omega
      | succ i ih =>
        intro hi
        have h1 := h _ (hz (i + 1) hi)
        simp only [kpP, Bool.and_eq_true, decide_eq_true_eq] at h1
        have h2 := prevSeq_succ l i (by omega)
        have h3 := ih (by omega)
        omega
    intro x hx
    have h1 := h x hx
    obtain ⟨hl, e⟩ := hm x hx
    have h2 := pos x.2 hl
    rw [← e] at h2
    simp only [kpS, kpP, Bool.and_eq_true, decide_eq_true_eq] at h1 ⊢
    obtain ⟨⟨⟨⟨a, b⟩, c⟩, d⟩, f⟩ := h1
    exact ⟨⟨⟨⟨a, b⟩, by omega⟩, .inr d⟩, c⟩
theorem firstI_all {β : Type} (p : β → Bool) : ∀ (l : List β) (k : Nat), (firstI p k l).isSome = !allB (fun b => !p b) l
  | [], _ => rfl
  | b :: l, k => by
    unfold firstI allB
    by_cases h : p b = true
    · simp [h]
    · have := firstI_all p l (k + 1)
      unfold allB at this
      simp [h, this]
theorem wKp_mem {l : List Kp} {k : Kp} (h : k ∈ l) : wOb k.obj ≤ wL wKp l := wL_mem (w := wKp) h
theorem wBn_mem {l : List Bn} {b : Bn} (h : b ∈ l) : wBn b ≤ wL wBn l := wL_mem (w := wBn) h
def shelfOk (s : Sh) : Bool := okD s.disk && decide ((s.bans.length : Int) ≤ 5) && decide (5 ≤ s.next ∧ s.next ≤ 19) && decide (1 ≤ s.seq ∧ s.seq ≤ 100000) && allB banOk s.bans && objsOk s.seq s.objs
/-! Answers. -/
def answer (q : Rq) (o : Ob) (now : Int) : Rsp :=
  let out := if sameQ q o.resp.fields = true then shortR o.resp else o.resp
  let w : Rsp := ⟨out.status, putF out.fields nmAge (numText (ageAt o.resp.fields o.t now)), out.body⟩
  if respOk w = true then w else out
theorem shortR_w (r : Rsp) : wL wFld (r.fields.filter shortB) ≤ wL wFld r.fields := by
  unfold wL
  have h1 := List.length_filter_le shortB r.fields
  have h2 : ((r.fields.filter shortB).map wFld).sum ≤ (r.fields.map wFld).sum := by
    generalize r.fields = l
    induction l with
    | nil => simp
    | cons a l ih =>
      rw [List.filter_cons]
      split <;> simp <;> omega
  omega
end M
set_option linter.unusedVariables false
set_option linter.unusedSimpArgs false
namespace M
open Go
/-! What is written into the data to see who else holds them. -/
def mk_i (_ : Int) (k : Int) : Int := k
def mk_s (_ : Str) (k : Int) : Str := markT k
def mk_b (_ : Bool) (k : Int) : Bool := decide (k.tmod 3 = 0)
def cn_1 {α : Type} (_ : α) : Nat := 1
def mkL {α : Type} (mk : α → Int → α) (n : α → Nat) : List α → Int → List α
  | [], _ => []
  | a :: l, k => mk a k :: mkL mk n l (k + (n a : Nat))
def nL {α : Type} (n : α → Nat) (l : List α) : Nat := (l.map n).sum
@[simp] theorem mkL_len {α : Type} (mk : α → Int → α) (n : α → Nat) : ∀ (l : List α) (k : Int), (mkL mk n l k).length = l.length
  | [], _ => rfl
  | a :: l, k => by simp [mkL, mkL_len mk n l]
theorem nL_take {α : Type} (n : α → Nat) (l : List α) (i : Nat) (h : i < l.length) : nL n (l.take (i + 1)) = nL n (l.take i) + n l[i] := by
  unfold nL
  rw [List.take_succ_eq_append_getElem h, List.map_append, List.sum_append]
  simp
theorem mkL_get {α : Type} (mk : α → Int → α) (n : α → Nat) : ∀ (l : List α) (k : Int) (i : Nat) (h : i < l.length) (h' : i < (mkL mk n l k).length), (mkL mk n l k)[i] = mk l[i] (k + (nL n (l.take i) : Nat))
  | a :: l, k, 0, _, _ => by simp [mkL, nL]
  | a :: l, k, i + 1, h, h' => by
    have h1 := mkL_get mk n l (k + (n a : Nat)) i (by simpa using h) (by simp at h ⊢; omega)
    simp only [mkL, List.getElem_cons_succ, List.take_succ_cons, h1]
    congr 1
    simp [nL]; omega
theorem nL_take_le {α : Type} (n : α → Nat) (l : List α) (i : Nat) (h : i < l.length) : nL n (l.take i) + n l[i] ≤ nL n l := by
  rw [← nL_take n l i h]
  unfold nL
  conv => rhs; rw [← List.take_append_drop (i + 1) l]
  rw [List.map_append, List.sum_append]
  omega
theorem nL_one {α : Type} (l : List α) : nL (cn_1 : α → Nat) l = l.length := by
  unfold nL cn_1
  induction l with
  | nil => rfl
  | cons a l ih => simp only [List.map_cons, List.sum_cons, List.length_cons, ih]; omega
theorem nL_ge {α : Type} (n : α → Nat) (h : ∀ a, 1 ≤ n a) (l : List α) : l.length ≤ nL n l := by
  unfold nL
  induction l with
  | nil => simp
  | cons a l ih => have := h a; simp; omega
theorem nL_le {α : Type} (n w : α → Nat) (h : ∀ a, n a ≤ 20 + 20 * w a) (l : List α) : nL n l ≤ 20 * wL w l := by
  unfold nL wL
  induction l with
  | nil => simp
  | cons a l ih => have := h a; simp at ih ⊢; omega
theorem nL_o {α : Type} (w : α → Nat) (l : List α) : nL (cn_1 : α → Nat) l ≤ 20 * wL w l := by
  rw [nL_one]; unfold wL; omega
def mk_Fld (a : Fld) (k : Int) : Fld := ⟨mk_s a.name (k), mk_s a.value (k + 1)⟩
def cn_Fld (a : Fld) : Nat := 2
theorem cn_Fld_1 (a : Fld) : 1 ≤ cn_Fld a := by unfold cn_Fld; omega
theorem cn_Fld_le (a : Fld) : cn_Fld a ≤ 20 + 20 * wFld a := by
  unfold cn_Fld
  skip
  simp only [wFld]
  omega
def mk_Wr (a : Wr) (k : Int) : Wr := ⟨mk_i a.at_ (k), mk_s a.text (k + 1)⟩
def cn_Wr (a : Wr) : Nat := 2
theorem cn_Wr_1 (a : Wr) : 1 ≤ cn_Wr a := by unfold cn_Wr; omega
theorem cn_Wr_le (a : Wr) : cn_Wr a ≤ 20 + 20 * wWr a := by
  unfold cn_Wr
  skip
  simp only [wWr]
  omega
def mk_Kp (a : Kp) (k : Int) : Kp := ⟨⟨mk_s a.obj.path (k), mkL mk_s cn_1 a.obj.names (k + 1), mkL mk_s cn_1 a.obj.values (k + 1 + (nL cn_1 a.obj.names : Nat)), ⟨mk_i a.obj.resp.status (k + 1 + (nL cn_1 a.obj.names : Nat) + (nL cn_1 a.obj.values : Nat)), mkL mk_Fld cn_Fld a.obj.resp.fields (k + 1 + (nL cn_1 a.obj.names : Nat) + (nL cn_1 a.obj.values : Nat) + 1), mk_s a.obj.resp.body (k + 1 + (nL cn_1 a.obj.names : Nat) + (nL cn_1 a.obj.values : Nat) + 1 + (nL cn_Fld a.obj.resp.fields : Nat))⟩, mk_i a.obj.t (k + 1 + (nL cn_1 a.obj.names : Nat) + (nL cn_1 a.obj.values : Nat) + 1 + (nL cn_Fld a.obj.resp.fields : Nat) + 1)⟩, mk_i a.at_ (k + 1 + (nL cn_1 a.obj.names : Nat) + (nL cn_1 a.obj.values : Nat) + 1 + (nL cn_Fld a.obj.resp.fields : Nat) + 1 + 1), mk_i a.seq (k + 1 + (nL cn_1 a.obj.names : Nat) + (nL cn_1 a.obj.values : Nat) + 1 + (nL cn_Fld a.obj.resp.fields : Nat) + 1 + 1 + 1)⟩
def cn_Kp (a : Kp) : Nat := 6 + nL cn_1 a.obj.names + nL cn_1 a.obj.values + nL cn_Fld a.obj.resp.fields
theorem cn_Kp_1 (a : Kp) : 1 ≤ cn_Kp a := by unfold cn_Kp; omega
theorem cn_Kp_le (a : Kp) : cn_Kp a ≤ 20 + 20 * wKp a := by
  unfold cn_Kp
  have := nL_o wS a.obj.names
  have := nL_o wS a.obj.values
  have := nL_le cn_Fld wFld cn_Fld_le a.obj.resp.fields
  simp only [wKp, wOb, wRsp]
  omega
def mk_Bn (a : Bn) (k : Int) : Bn := ⟨mk_i a.kind (k), mk_s a.a (k + 1), mk_s a.b (k + 1 + 1), mk_i a.t (k + 1 + 1 + 1)⟩
def cn_Bn (a : Bn) : Nat := 4
theorem cn_Bn_1 (a : Bn) : 1 ≤ cn_Bn a := by unfold cn_Bn; omega
theorem cn_Bn_le (a : Bn) : cn_Bn a ≤ 20 + 20 * wBn a := by
  unfold cn_Bn
  skip
  simp only [wBn]
  omega
def mk_Fl (a : Fl) (k : Int) : Fl := ⟨⟨mk_i a.q.method (k), mk_s a.q.path (k + 1), mkL mk_Fld cn_Fld a.q.fields (k + 1 + 1), mk_s a.q.body (k + 1 + 1 + (nL cn_Fld a.q.fields : Nat))⟩, mkL mk_i cn_1 a.who (k + 1 + 1 + (nL cn_Fld a.q.fields : Nat) + 1), ⟨mk_s a.old.path (k + 1 + 1 + (nL cn_Fld a.q.fields : Nat) + 1 + (nL cn_1 a.who : Nat)), mkL mk_s cn_1 a.old.names (k + 1 + 1 + (nL cn_Fld a.q.fields : Nat) + 1 + (nL cn_1 a.who : Nat) + 1), mkL mk_s cn_1 a.old.values (k + 1 + 1 + (nL cn_Fld a.q.fields : Nat) + 1 + (nL cn_1 a.who : Nat) + 1 + (nL cn_1 a.old.names : Nat)), ⟨mk_i a.old.resp.status (k + 1 + 1 + (nL cn_Fld a.q.fields : Nat) + 1 + (nL cn_1 a.who : Nat) + 1 + (nL cn_1 a.old.names : Nat) + (nL cn_1 a.old.values : Nat)), mkL mk_Fld cn_Fld a.old.resp.fields (k + 1 + 1 + (nL cn_Fld a.q.fields : Nat) + 1 + (nL cn_1 a.who : Nat) + 1 + (nL cn_1 a.old.names : Nat) + (nL cn_1 a.old.values : Nat) + 1), mk_s a.old.resp.body (k + 1 + 1 + (nL cn_Fld a.q.fields : Nat) + 1 + (nL cn_1 a.who : Nat) + 1 + (nL cn_1 a.old.names : Nat) + (nL cn_1 a.old.values : Nat) + 1 + (nL cn_Fld a.old.resp.fields : Nat))⟩, mk_i a.old.t (k + 1 + 1 + (nL cn_Fld a.q.fields : Nat) + 1 + (nL cn_1 a.who : Nat) + 1 + (nL cn_1 a.old.names : Nat) + (nL cn_1 a.old.values : Nat) + 1 + (nL cn_Fld a.old.resp.fields : Nat) + 1)⟩, mk_b a.hasOld (k + 1 + 1 + (nL cn_Fld a.q.fields : Nat) + 1 + (nL cn_1 a.who : Nat) + 1 + (nL cn_1 a.old.names : Nat) + (nL cn_1 a.old.values : Nat) + 1 + (nL cn_Fld a.old.resp.fields : Nat) + 1 + 1)⟩
def cn_Fl (a : Fl) : Nat := 8 + nL cn_Fld a.q.fields + nL cn_1 a.who + nL cn_1 a.old.names + nL cn_1 a.old.values + nL cn_Fld a.old.resp.fields
theorem cn_Fl_1 (a : Fl) : 1 ≤ cn_Fl a := by unfold cn_Fl; omega
theorem cn_Fl_le (a : Fl) : cn_Fl a ≤ 20 + 20 * wFl a := by
  unfold cn_Fl
  have := nL_le cn_Fld wFld cn_Fld_le a.q.fields
  have := nL_o wO a.who
  have := nL_o wS a.old.names
  have := nL_o wS a.old.values
  have := nL_le cn_Fld wFld cn_Fld_le a.old.resp.fields
  simp only [wFl, wOb, wRq, wRsp]
  omega
def mk_Se (a : Se) (k : Int) : Se := ⟨⟨mk_i a.q.method (k), mk_s a.q.path (k + 1), mkL mk_Fld cn_Fld a.q.fields (k + 1 + 1), mk_s a.q.body (k + 1 + 1 + (nL cn_Fld a.q.fields : Nat))⟩, ⟨mk_i a.resp.status (k + 1 + 1 + (nL cn_Fld a.q.fields : Nat) + 1), mkL mk_Fld cn_Fld a.resp.fields (k + 1 + 1 + (nL cn_Fld a.q.fields : Nat) + 1 + 1), mk_s a.resp.body (k + 1 + 1 + (nL cn_Fld a.q.fields : Nat) + 1 + 1 + (nL cn_Fld a.resp.fields : Nat))⟩, mk_i a.t (k + 1 + 1 + (nL cn_Fld a.q.fields : Nat) + 1 + 1 + (nL cn_Fld a.resp.fields : Nat) + 1)⟩
def cn_Se (a : Se) : Nat := 6 + nL cn_Fld a.q.fields + nL cn_Fld a.resp.fields
theorem cn_Se_1 (a : Se) : 1 ≤ cn_Se a := by unfold cn_Se; omega
theorem cn_Se_le (a : Se) : cn_Se a ≤ 20 + 20 * wSe a := by
  unfold cn_Se
  have := nL_le cn_Fld wFld cn_Fld_le a.q.fields
  have := nL_le cn_Fld wFld cn_Fld_le a.resp.fields
  simp only [wRq, wRsp, wSe]
  omega
def mk_Rp (a : Rp) (k : Int) : Rp := ⟨mk_i a.client (k), ⟨mk_i a.q.method (k + 1), mk_s a.q.path (k + 1 + 1), mkL mk_Fld cn_Fld a.q.fields (k + 1 + 1 + 1), mk_s a.q.body (k + 1 + 1 + 1 + (nL cn_Fld a.q.fields : Nat))⟩, ⟨mk_i a.resp.status (k + 1 + 1 + 1 + (nL cn_Fld a.q.fields : Nat) + 1), mkL mk_Fld cn_Fld a.resp.fields (k + 1 + 1 + 1 + (nL cn_Fld a.q.fields : Nat) + 1 + 1), mk_s a.resp.body (k + 1 + 1 + 1 + (nL cn_Fld a.q.fields : Nat) + 1 + 1 + (nL cn_Fld a.resp.fields : Nat))⟩, mk_i a.kind (k + 1 + 1 + 1 + (nL cn_Fld a.q.fields : Nat) + 1 + 1 + (nL cn_Fld a.resp.fields : Nat) + 1), mk_i a.t (k + 1 + 1 + 1 + (nL cn_Fld a.q.fields : Nat) + 1 + 1 + (nL cn_Fld a.resp.fields : Nat) + 1 + 1), ⟨mk_s a.obj.path (k + 1 + 1 + 1 + (nL cn_Fld a.q.fields : Nat) + 1 + 1 + (nL cn_Fld a.resp.fields : Nat) + 1 + 1 + 1), mkL mk_s cn_1 a.obj.names (k + 1 + 1 + 1 + (nL cn_Fld a.q.fields : Nat) + 1 + 1 + (nL cn_Fld a.resp.fields : Nat) + 1 + 1 + 1 + 1), mkL mk_s cn_1 a.obj.values (k + 1 + 1 + 1 + (nL cn_Fld a.q.fields : Nat) + 1 + 1 + (nL cn_Fld a.resp.fields : Nat) + 1 + 1 + 1 + 1 + (nL cn_1 a.obj.names : Nat)), ⟨mk_i a.obj.resp.status (k + 1 + 1 + 1 + (nL cn_Fld a.q.fields : Nat) + 1 + 1 + (nL cn_Fld a.resp.fields : Nat) + 1 + 1 + 1 + 1 + (nL cn_1 a.obj.names : Nat) + (nL cn_1 a.obj.values : Nat)), mkL mk_Fld cn_Fld a.obj.resp.fields (k + 1 + 1 + 1 + (nL cn_Fld a.q.fields : Nat) + 1 + 1 + (nL cn_Fld a.resp.fields : Nat) + 1 + 1 + 1 + 1 + (nL cn_1 a.obj.names : Nat) + (nL cn_1 a.obj.values : Nat) + 1), mk_s a.obj.resp.body (k + 1 + 1 + 1 + (nL cn_Fld a.q.fields : Nat) + 1 + 1 + (nL cn_Fld a.resp.fields : Nat) + 1 + 1 + 1 + 1 + (nL cn_1 a.obj.names : Nat) + (nL cn_1 a.obj.values : Nat) + 1 + (nL cn_Fld a.obj.resp.fields : Nat))⟩, mk_i a.obj.t (k + 1 + 1 + 1 + (nL cn_Fld a.q.fields : Nat) + 1 + 1 + (nL cn_Fld a.resp.fields : Nat) + 1 + 1 + 1 + 1 + (nL cn_1 a.obj.names : Nat) + (nL cn_1 a.obj.values : Nat) + 1 + (nL cn_Fld a.obj.resp.fields : Nat) + 1)⟩, mk_i a.bans (k + 1 + 1 + 1 + (nL cn_Fld a.q.fields : Nat) + 1 + 1 + (nL cn_Fld a.resp.fields : Nat) + 1 + 1 + 1 + 1 + (nL cn_1 a.obj.names : Nat) + (nL cn_1 a.obj.values : Nat) + 1 + (nL cn_Fld a.obj.resp.fields : Nat) + 1 + 1)⟩
def cn_Rp (a : Rp) : Nat := 13 + nL cn_Fld a.q.fields + nL cn_Fld a.resp.fields + nL cn_1 a.obj.names + nL cn_1 a.obj.values + nL cn_Fld a.obj.resp.fields
theorem cn_Rp_1 (a : Rp) : 1 ≤ cn_Rp a := by unfold cn_Rp; omega
theorem cn_Rp_le (a : Rp) : cn_Rp a ≤ 20 + 20 * wRp a := by
  unfold cn_Rp
  have := nL_le cn_Fld wFld cn_Fld_le a.q.fields
  have := nL_le cn_Fld wFld cn_Fld_le a.resp.fields
  have := nL_o wS a.obj.names
  have := nL_o wS a.obj.values
  have := nL_le cn_Fld wFld cn_Fld_le a.obj.resp.fields
  simp only [wOb, wRp, wRq, wRsp]
  omega
def mk_De (a : De) (k : Int) : De := ⟨mk_i a.kind (k), mk_i a.client (k + 1), ⟨mk_i a.q.method (k + 1 + 1), mk_s a.q.path (k + 1 + 1 + 1), mkL mk_Fld cn_Fld a.q.fields (k + 1 + 1 + 1 + 1), mk_s a.q.body (k + 1 + 1 + 1 + 1 + (nL cn_Fld a.q.fields : Nat))⟩, mk_i a.a (k + 1 + 1 + 1 + 1 + (nL cn_Fld a.q.fields : Nat) + 1), ⟨mk_i a.resp.status (k + 1 + 1 + 1 + 1 + (nL cn_Fld a.q.fields : Nat) + 1 + 1), mkL mk_Fld cn_Fld a.resp.fields (k + 1 + 1 + 1 + 1 + (nL cn_Fld a.q.fields : Nat) + 1 + 1 + 1), mk_s a.resp.body (k + 1 + 1 + 1 + 1 + (nL cn_Fld a.q.fields : Nat) + 1 + 1 + 1 + (nL cn_Fld a.resp.fields : Nat))⟩, ⟨mk_i a.ban.kind (k + 1 + 1 + 1 + 1 + (nL cn_Fld a.q.fields : Nat) + 1 + 1 + 1 + (nL cn_Fld a.resp.fields : Nat) + 1), mk_s a.ban.a (k + 1 + 1 + 1 + 1 + (nL cn_Fld a.q.fields : Nat) + 1 + 1 + 1 + (nL cn_Fld a.resp.fields : Nat) + 1 + 1), mk_s a.ban.b (k + 1 + 1 + 1 + 1 + (nL cn_Fld a.q.fields : Nat) + 1 + 1 + 1 + (nL cn_Fld a.resp.fields : Nat) + 1 + 1 + 1), mk_i a.ban.t (k + 1 + 1 + 1 + 1 + (nL cn_Fld a.q.fields : Nat) + 1 + 1 + 1 + (nL cn_Fld a.resp.fields : Nat) + 1 + 1 + 1 + 1)⟩, mkL mk_b cn_1 a.keep (k + 1 + 1 + 1 + 1 + (nL cn_Fld a.q.fields : Nat) + 1 + 1 + 1 + (nL cn_Fld a.resp.fields : Nat) + 1 + 1 + 1 + 1 + 1)⟩
def cn_De (a : De) : Nat := 12 + nL cn_Fld a.q.fields + nL cn_Fld a.resp.fields + nL cn_1 a.keep
theorem cn_De_1 (a : De) : 1 ≤ cn_De a := by unfold cn_De; omega
theorem cn_De_le (a : De) : cn_De a ≤ 20 + 20 * wDe a := by
  unfold cn_De
  have := nL_le cn_Fld wFld cn_Fld_le a.q.fields
  have := nL_le cn_Fld wFld cn_Fld_le a.resp.fields
  have := nL_o wO a.keep
  simp only [wBn, wDe, wRq, wRsp]
  omega
def mk_Rq (a : Rq) (k : Int) : Rq := ⟨mk_i a.method (k), mk_s a.path (k + 1), mkL mk_Fld cn_Fld a.fields (k + 1 + 1), mk_s a.body (k + 1 + 1 + (nL cn_Fld a.fields : Nat))⟩
def cn_Rq (a : Rq) : Nat := 3 + nL cn_Fld a.fields
theorem cn_Rq_1 (a : Rq) : 1 ≤ cn_Rq a := by unfold cn_Rq; omega
theorem cn_Rq_le (a : Rq) : cn_Rq a ≤ 20 + 20 * wRq a := by
  unfold cn_Rq
  have := nL_le cn_Fld wFld cn_Fld_le a.fields
  simp only [wRq]
  omega
def tm_Rq (a : Rq) (k : Int) : Rq := ⟨a.method, a.path, mkL mk_Fld cn_Fld a.fields (k), a.body⟩
@[simp] theorem tm_Rq_method (a : Rq) (k : Int) : (tm_Rq a k).method = a.method := rfl
@[simp] theorem tm_Rq_path (a : Rq) (k : Int) : (tm_Rq a k).path = a.path := rfl
@[simp] theorem tm_Rq_body (a : Rq) (k : Int) : (tm_Rq a k).body = a.body := rfl
def tn_Rq (a : Rq) : Nat := nL cn_Fld a.fields
theorem tn_Rq_le (a : Rq) : tn_Rq a ≤ 20 * wRq a := by
  unfold tn_Rq
  have := nL_le cn_Fld wFld cn_Fld_le a.fields
  unfold wRq
  omega
def tm_Rsp (a : Rsp) (k : Int) : Rsp := ⟨a.status, mkL mk_Fld cn_Fld a.fields (k), a.body⟩
@[simp] theorem tm_Rsp_status (a : Rsp) (k : Int) : (tm_Rsp a k).status = a.status := rfl
@[simp] theorem tm_Rsp_body (a : Rsp) (k : Int) : (tm_Rsp a k).body = a.body := rfl
def tn_Rsp (a : Rsp) : Nat := nL cn_Fld a.fields
theorem tn_Rsp_le (a : Rsp) : tn_Rsp a ≤ 20 * wRsp a := by
  unfold tn_Rsp
  have := nL_le cn_Fld wFld cn_Fld_le a.fields
  unfold wRsp
  omega
def tm_Ob (a : Ob) (k : Int) : Ob := ⟨a.path, mkL mk_s cn_1 a.names (k), mkL mk_s cn_1 a.values (k + (nL cn_1 a.names : Nat)), tm_Rsp a.resp (k + (nL cn_1 a.names : Nat) + (nL cn_1 a.values : Nat)), a.t⟩
@[simp] theorem tm_Ob_path (a : Ob) (k : Int) : (tm_Ob a k).path = a.path := rfl
@[simp] theorem tm_Ob_resp (a : Ob) (k : Int) : (tm_Ob a k).resp = tm_Rsp a.resp (k + (nL cn_1 a.names : Nat) + (nL cn_1 a.values : Nat)) := rfl
@[simp] theorem tm_Ob_t (a : Ob) (k : Int) : (tm_Ob a k).t = a.t := rfl
def tn_Ob (a : Ob) : Nat := nL cn_1 a.names + nL cn_1 a.values + tn_Rsp a.resp
theorem tn_Ob_le (a : Ob) : tn_Ob a ≤ 20 * wOb a := by
  unfold tn_Ob
  have := nL_o wS a.names
  have := nL_o wS a.values
  have := tn_Rsp_le a.resp
  unfold wOb
  omega
def tm_Dsk (a : Dsk) (k : Int) : Dsk := ⟨mkL mk_s cn_1 a.cells (k), mkL mk_Wr cn_Wr a.pending (k + (nL cn_1 a.cells : Nat))⟩
def tn_Dsk (a : Dsk) : Nat := nL cn_1 a.cells + nL cn_Wr a.pending
theorem tn_Dsk_le (a : Dsk) : tn_Dsk a ≤ 20 * wDsk a := by
  unfold tn_Dsk
  have := nL_o wS a.cells
  have := nL_le cn_Wr wWr cn_Wr_le a.pending
  unfold wDsk
  omega
def tm_Sh (a : Sh) (k : Int) : Sh := ⟨tm_Dsk a.disk (k), mkL mk_Kp cn_Kp a.objs (k + (tn_Dsk a.disk : Nat)), mkL mk_Bn cn_Bn a.bans (k + (tn_Dsk a.disk : Nat) + (nL cn_Kp a.objs : Nat)), a.next, a.seq⟩
@[simp] theorem tm_Sh_disk (a : Sh) (k : Int) : (tm_Sh a k).disk = tm_Dsk a.disk (k) := rfl
@[simp] theorem tm_Sh_next (a : Sh) (k : Int) : (tm_Sh a k).next = a.next := rfl
@[simp] theorem tm_Sh_seq (a : Sh) (k : Int) : (tm_Sh a k).seq = a.seq := rfl
def tn_Sh (a : Sh) : Nat := tn_Dsk a.disk + nL cn_Kp a.objs + nL cn_Bn a.bans
theorem tn_Sh_le (a : Sh) : tn_Sh a ≤ 20 * wSh a := by
  unfold tn_Sh
  have := tn_Dsk_le a.disk
  have := nL_le cn_Kp wKp cn_Kp_le a.objs
  have := nL_le cn_Bn wBn cn_Bn_le a.bans
  unfold wSh
  omega
def tm_Ca (a : Ca) (k : Int) : Ca := ⟨tm_Sh a.shelf (k), mkL mk_Fl cn_Fl a.flights (k + (tn_Sh a.shelf : Nat)), a.now, mkL mk_Se cn_Se a.seen (k + (tn_Sh a.shelf : Nat) + (nL cn_Fl a.flights : Nat)), mkL mk_Rp cn_Rp a.sent (k + (tn_Sh a.shelf : Nat) + (nL cn_Fl a.flights : Nat) + (nL cn_Se a.seen : Nat))⟩
@[simp] theorem tm_Ca_shelf (a : Ca) (k : Int) : (tm_Ca a k).shelf = tm_Sh a.shelf (k) := rfl
@[simp] theorem tm_Ca_now (a : Ca) (k : Int) : (tm_Ca a k).now = a.now := rfl
def tn_Ca (a : Ca) : Nat := tn_Sh a.shelf + nL cn_Fl a.flights + nL cn_Se a.seen + nL cn_Rp a.sent
theorem tn_Ca_le (a : Ca) : tn_Ca a ≤ 20 * wCa a := by
  unfold tn_Ca
  have := tn_Sh_le a.shelf
  have := nL_le cn_Fl wFl cn_Fl_le a.flights
  have := nL_le cn_Se wSe cn_Se_le a.seen
  have := nL_le cn_Rp wRp cn_Rp_le a.sent
  unfold wCa
  omega
def tm_De (a : De) (k : Int) : De := ⟨a.kind, a.client, tm_Rq a.q (k), a.a, tm_Rsp a.resp (k + (tn_Rq a.q : Nat)), a.ban, mkL mk_b cn_1 a.keep (k + (tn_Rq a.q : Nat) + (tn_Rsp a.resp : Nat))⟩
@[simp] theorem tm_De_kind (a : De) (k : Int) : (tm_De a k).kind = a.kind := rfl
@[simp] theorem tm_De_client (a : De) (k : Int) : (tm_De a k).client = a.client := rfl
@[simp] theorem tm_De_q (a : De) (k : Int) : (tm_De a k).q = tm_Rq a.q (k) := rfl
@[simp] theorem tm_De_a (a : De) (k : Int) : (tm_De a k).a = a.a := rfl
@[simp] theorem tm_De_resp (a : De) (k : Int) : (tm_De a k).resp = tm_Rsp a.resp (k + (tn_Rq a.q : Nat)) := rfl
@[simp] theorem tm_De_ban (a : De) (k : Int) : (tm_De a k).ban = a.ban := rfl
def tn_De (a : De) : Nat := tn_Rq a.q + tn_Rsp a.resp + nL cn_1 a.keep
theorem tn_De_le (a : De) : tn_De a ≤ 20 * wDe a := by
  unfold tn_De
  have := tn_Rq_le a.q
  have := tn_Rsp_le a.resp
  have := nL_o wO a.keep
  unfold wDe
  omega
end M
set_option linter.unusedVariables false
set_option linter.unusedSimpArgs false
namespace M
open Go Go.RowKit
/-! The library's functions as oracles: sound, by their contracts. -/
theorem Same0.cell [B : Bs] {w : World} (h : Same0 w) {b k : Nat} {v : Value} (hc : B.W0.cell? ⟨b, k, none⟩ = some v) : w.cell? ⟨b, k, none⟩ = some v := by
  have hb : b < B.W0.heap.size := by
    rcases Nat.lt_or_ge b B.W0.heap.size with h | h
    · exact h
    · simp [World.cell?, Array.getElem?_eq_none h] at hc
  have e := h b hb
  simpa [World.cell?, e] using hc
theorem below_drew (w : World) : Below w.heap.size w w.drew := (Below.refl _ _).drew
theorem below_drewN (w : World) : ∀ n, Below w.heap.size w (w.drewN n) := fun n => ⟨rfl, rfl, rfl, Nat.le_refl _, fun _ _ => rfl⟩
theorem two_str {cs : List C} {s c : ByteArray} (h : cs.map C.er = [.str s, .str c]) : cs = [.str s, .str c] := by
  obtain ⟨a, r, rfl, h1, h2⟩ := map_cons h
  obtain ⟨b, r', rfl, h3, h4⟩ := map_cons h2
  obtain rfl := map_nil h4
  rw [er_str0 h1, er_str0 h3]
theorem one_str {cs : List C} {s : ByteArray} (h : cs.map C.er = [.str s]) : cs = [.str s] := by
  obtain ⟨a, r, rfl, h1, h2⟩ := map_cons h
  obtain rfl := map_nil h2
  rw [er_str0 h1]
theorem one_int {cs : List C} {k : IntKind} {n : Int} (h : cs.map C.er = [.int k n]) : cs = [.int k n] := by
  obtain ⟨a, r, rfl, h1, h2⟩ := map_cons h
  obtain rfl := map_nil h2
  rw [er_int0 h1]
theorem trimO_sound [Bs] {P : Program} {f0 : FuncId} (hc : ∀ (s : ByteArray) (c : UInt8), c.toNat < 128 → ∀ w, s.size ≤ 9223372036854775807 →
    Calls P f0 #[.string s, .string ⟨#[c]⟩] w fun e w' => e = .returned (.string ⟨(Lib.trimB s.data.toList c).toArray⟩) ∧ (w' = w ∨ w' = w.drew)) : (newO f0 trimG).Sound P :=
  newO_sound fun xs r hg w zl zb cs hx hA hs => by
    unfold trimG at hg
    split at hg
    · rename_i s c
      split at hg
      · rename_i hh
        cases hg
        obtain rfl := two_str hx
        have e : c = ⟨#[32]⟩ := by
          have := congrArg List.toArray hh.1
          simp at this
          cases c; simp at this; rw [this]
        subst e
        refine (hc s 32 (by decide) w hh.2).mono fun e w' ⟨he, hw⟩ => ⟨.str ⟨(trimS s.data.toList).toArray⟩, he, rfl, ?_, fresh_str ?_⟩
        · rcases hw with rfl | rfl
          · exact Below.refl _ _
          · exact below_drew _
        · have := trimS_len s.data.toList
          have h2 := hh.2
          simp only [ByteArray.size] at h2 ⊢
          simp at this ⊢
          omega
      · cases hg
    · cases hg
theorem splitO_sound [B : Bs] {P : Program} {f0 : FuncId} {g1 : Nat} {t9 : TypeId} (hm : ∃ m, B.W0.cell? ⟨g1, 0, none⟩ = some (.int .i64 m)) (hc : ∀ (s sep : ByteArray) (m : Int) (w : World), s.size < 4294967281 → w.cell? ⟨g1, 0, none⟩ = some (.int .i64 m) → 1 ≤ sep.size →
    Calls P f0 #[.string s, .string sep] w fun e w' => e = .returned (.slice (some ⟨w.heap.size, 0, none⟩) (Lib.countB s sep + 1) (Lib.countB s sep + 1)) ∧ w' = w.alloc (.cells ((Lib.splitB sep 0 (Lib.countB s sep) s).map Value.string).toArray t9)) : (newO f0 splitG).Sound P :=
  newO_sound fun xs r hg w zl zb cs hx hA hs => by
    unfold splitG at hg
    split at hg
    · rename_i s c
      split at hg
      · rename_i hh
        cases hg
        obtain rfl := two_str hx
        obtain ⟨m, hm⟩ := hm
        have hlen := Lib.splitB_all c hh.2 0 _ s rfl
        have hdat := Lib.splitB_data c 0 (Lib.countB s c) s
        refine (hc s c m w hh.1 (hs.cell hm) hh.2).mono fun e w' ⟨he, hw⟩ => ?_
        subst hw
        refine ⟨.row .own 1 (some (w.heap.size, 0, none)) (Lib.splitB c 0 (Lib.countB s c) s).length (Lib.splitB c 0 (Lib.countB s c) s).length fun i _ => .str ((Lib.splitB c 0 (Lib.countB s c) s).getD i ByteArray.empty), ?_, ?_, ?_, ?_⟩
        · rw [he, hlen]; rfl
        · rw [row_er]
          unfold rowX1
          congr 1
          have : Lib.split s.data.toList c.data.toList = (Lib.splitB c 0 (Lib.countB s c) s).map (·.data.toList) := hdat.symm
          rw [this, List.map_map]
          refine List.map_congr_left fun x _ => ?_
          simp
        · exact (Below.refl _ _).alloc (Nat.le_refl _) _
        · refine fresh_row (Nat.le_refl _) (t := t9) ?_ fun x hx => ?_
          · show (w.heap.push _)[w.heap.size]? = _
            simp
          · have h1 : x.data.toList ∈ Lib.splitK c.data.toList 0 (Lib.countB s c) s.data.toList := by rw [← hdat]; exact List.mem_map_of_mem hx
            have h2 : ∀ (k : Nat) (l : List UInt8), ∀ y ∈ Lib.splitK c.data.toList 0 k l, y.length ≤ l.length := by
              intro k
              induction k with
              | zero => intro l y hy; simp [Lib.splitK] at hy; rw [hy]; exact Nat.le_refl _
              | succ k ih =>
                intro l y hy
                unfold Lib.splitK at hy
                split at hy
                · rw [List.mem_singleton.1 hy]; exact Nat.le_refl _
                · rcases List.mem_cons.1 hy with rfl | hy
                  · simp
                    omega
                  · have := ih _ _ hy; simp at this; omega
            have h3 := h2 _ _ _ h1
            have h4 := hh.1
            have e1 : s.size = s.data.toList.length := Lib.size_eq _
            have e2 : x.size = x.data.toList.length := Lib.size_eq _
            omega
      · cases hg
    · cases hg
theorem cut_len (s c : Str) : (Lib.cut s c).1.length ≤ s.length ∧ (Lib.cut s c).2.1.length ≤ s.length := by
  unfold Lib.cut
  split
  · simp; omega
  · simp
theorem cutO_sound [B : Bs] {P : Program} {f0 : FuncId} {g1 : Nat} (hm : ∃ m, B.W0.cell? ⟨g1, 0, none⟩ = some (.int .i64 m)) (hc : ∀ (s sep : ByteArray) (m : Int) (w : World), s.size < 4294967281 → w.cell? ⟨g1, 0, none⟩ = some (.int .i64 m) →
    Calls P f0 #[.string s, .string sep] w fun e w' => e = .returned (.tuple #[.string ⟨(Lib.cut s.data.toList sep.data.toList).1.toArray⟩, .string ⟨(Lib.cut s.data.toList sep.data.toList).2.1.toArray⟩, .bool (Lib.cut s.data.toList sep.data.toList).2.2]) ∧ ∃ n, w' = w.drewN n) : (newO f0 cutG).Sound P :=
  newO_sound fun xs r hg w zl zb cs hx hA hs => by
    unfold cutG at hg
    split at hg
    · rename_i s c
      split at hg
      · rename_i hh
        cases hg
        obtain rfl := two_str hx
        obtain ⟨m, hm⟩ := hm
        have hl := cut_len s.data.toList c.data.toList
        refine (hc s c m w hh (hs.cell hm)).mono fun e w' ⟨he, n, hw⟩ => ?_
        subst hw
        refine ⟨tupC [.str ⟨(Lib.cut s.data.toList c.data.toList).1.toArray⟩, .str ⟨(Lib.cut s.data.toList c.data.toList).2.1.toArray⟩, .bool (Lib.cut s.data.toList c.data.toList).2.2], ?_, ?_, below_drewN _ n, fresh_tup fun x hx => ?_⟩
        · rw [he, tupC_val]; rfl
        · rw [tupC_er]; rfl
        · have hz : s.data.toList.length ≤ 4294967281 := by
            have e1 : s.size = s.data.toList.length := Lib.size_eq _
            omega
          simp only [List.mem_cons, List.not_mem_nil, or_false] at hx
          rcases hx with rfl | rfl | rfl
          · exact ⟨fresh_str (by simp only [ByteArray.size, List.size_toArray]; omega), trivial, fun _ _ h => h⟩
          · exact ⟨fresh_str (by simp only [ByteArray.size, List.size_toArray]; omega), trivial, fun _ _ h => h⟩
          · exact ⟨fresh_bool, trivial, fun _ _ h => h⟩
      · cases hg
    · cases hg
theorem numReadO_sound [B : Bs] {P : Program} {f0 : FuncId} (hc : ∀ (s : ByteArray) (w : World), Same0 w → s.size ≤ 9223372036854775807 →
    Calls P f0 #[.string s] w fun e w' => e = .returned (.tuple #[.int .i64 (((numRead s.data.toList).getD 0 : Nat) : Int), .bool (numRead s.data.toList).isSome]) ∧ Below w.heap.size w w') : (newO f0 numReadG).Sound P :=
  newO_sound fun xs r hg w zl zb cs hx hA hs => by
    unfold numReadG at hg
    split at hg
    · rename_i s
      split at hg
      · rename_i hh
        cases hg
        obtain rfl := one_str hx
        refine (hc s w hs hh).mono fun e w' ⟨he, hw⟩ => ?_
        refine ⟨tupC [.int .i64 (((numRead s.data.toList).getD 0 : Nat) : Int), .bool (numRead s.data.toList).isSome], ?_, ?_, hw, fresh_tup fun x hx => ?_⟩
        · rw [he, tupC_val]; rfl
        · rw [tupC_er]; cases numRead s.data.toList <;> rfl
        · simp only [List.mem_cons, List.not_mem_nil, or_false] at hx
          rcases hx with rfl | rfl
          · exact ⟨fresh_int, trivial, fun _ _ h => h⟩
          · exact ⟨fresh_bool, trivial, fun _ _ h => h⟩
      · cases hg
    · cases hg
theorem itoaO_sound [B : Bs] {P : Program} {f0 : FuncId} (htab : Lib.TabIs P B.W0 "internal/strconv.uint64pow10" .u64 Lib.pow10Tab) (hc : ∀ (n : Int), -9223372036854775808 ≤ n → n ≤ 9223372036854775807 → ∀ w, Lib.TabIs P w "internal/strconv.uint64pow10" .u64 Lib.pow10Tab →
    Calls P f0 #[.int .i64 n] w fun e w' => e = .returned (.string ⟨(Lib.itoa n).toArray⟩) ∧ ∃ k os, w' = Sort.grow (w.drewN k) os) : (pureO f0 itoaG).Sound P :=
  growO_sound fun xs r h w hw => by
    unfold itoaG at h
    split at h
    · rename_i n
      split at h
      · rename_i hcc
        cases h
        exact hc n hcc.1 hcc.2 w (TabIs.same htab hw)
      · cases h
    · cases h
end M
set_option linter.unusedVariables false
namespace Go.Proofs
open Go.RowKit
/-! A number, read: what a walk of the program's own reader needs. -/
theorem tab_below {P : Program} {w w' : World} {n : String} {k : IntKind} {zs : List Int} (h : Lib.TabIs P w n k zs) (hw : Below w.heap.size w w') : Lib.TabIs P w' n k zs := by
  unfold Lib.TabIs World.var? at h ⊢
  cases hg : P.globalNamed n with
  | none => rw [hg] at h; cases h
  | some g =>
    rw [hg] at h
    simp only [Option.bind_some] at h ⊢
    have hlt : g < w.heap.size := by
      rcases Nat.lt_or_ge g w.heap.size with h' | h'
      · exact h'
      · rw [Array.getElem?_eq_none h'] at h; cases h
    rw [hw.block g hlt]
    exact h
theorem var_same [B : M.Bs] {P : Program} {w : World} {n : String} {cs : Array Value} (h : B.W0.var? P n = some cs) (hw : M.Same0 w) : w.var? P n = some cs := by
  unfold World.var? at h ⊢
  cases hg : P.globalNamed n with
  | none => rw [hg] at h; cases h
  | some g =>
    rw [hg] at h
    simp only [Option.bind_some] at h ⊢
    have hlt : g < B.W0.heap.size := by
      rcases Nat.lt_or_ge g B.W0.heap.size with h' | h'
      · exact h'
      · rw [Array.getElem?_eq_none h'] at h; cases h
    rw [hw g hlt]
    exact h
theorem grow_below (w : World) (k : Nat) (os : Array Obj) : Below w.heap.size w (Sort.grow (w.drewN k) os) :=
  ⟨rfl, rfl, rfl, by simp [Sort.grow, World.drewN], fun b hb => by show (w.heap ++ os)[b]? = w.heap[b]?; exact Array.getElem?_append_left hb⟩
def nrB (v : Int) (l : List UInt8) : Bool := decide (0 ≤ v ∧ v ≤ 1000000 ∧ Lib.itoa v = l)
def nrV (v : Int) (l : List UInt8) : Int := if nrB v l = true then v else 0
theorem nr_of {P : Program} {f a : FuncId} {s : ByteArray} {w : World} (hmax : s.size ≤ 9223372036854775807)
    (hlong : 7 < s.size → Calls P f #[.string s] w fun e w' => e = .returned (.tuple #[.int .i64 0, .bool false]) ∧ w' = w)
    (hok : ¬ 7 < s.size → ∀ v, Lib.atoiAll s.data.toList = .ok v → Calls P f #[.string s] w fun e w' => e = .returned (.tuple #[.int .i64 (nrV v s.data.toList), .bool (nrB v s.data.toList)]) ∧ Below w.heap.size w w')
    (hbad : ¬ 7 < s.size → (∀ v, Lib.atoiAll s.data.toList ≠ .ok v) → Calls P f #[.string s] w fun e w' => e = .returned (.tuple #[.int .i64 0, .bool false]) ∧ Below w.heap.size w w') :
    Calls P f #[.string s] w fun e w' => e = .returned (.tuple #[.int .i64 (((M.numRead s.data.toList).getD 0 : Nat) : Int), .bool (M.numRead s.data.toList).isSome]) ∧ Below w.heap.size w w' := by
  have hl : s.size = s.data.toList.length := Lib.size_eq _
  by_cases h : 7 < s.size
  · rw [M.numRead_long _ (by omega)]
    exact (hlong h).mono fun e w' ⟨he, hw⟩ => ⟨he, hw ▸ Below.refl _ _⟩
  by_cases hv : ∃ v, Lib.atoiAll s.data.toList = .ok v
  · obtain ⟨v, hv⟩ := hv
    rw [← M.numRead_atoi _ _ hv]
    refine (hok h v hv).mono fun e w' ⟨he, hw⟩ => ⟨?_, hw⟩
    rw [he]
    by_cases hb : nrB v s.data.toList = true
    · have hb' := hb
      unfold nrB at hb'
      rw [decide_eq_true_eq] at hb'
      rw [nrV, if_pos hb, hb, if_pos hb']
      simp; omega
    · have hb' := hb
      unfold nrB at hb'
      rw [decide_eq_true_eq] at hb'
      rw [nrV, if_neg hb, if_neg hb']
      simp [hb]
  · have hv' : ∀ v, Lib.atoiAll s.data.toList ≠ .ok v := fun v e => hv ⟨v, e⟩
    rw [M.numRead_noatoi _ hv']
    exact hbad h hv'
theorem returnsInHanded_of_change_and_shaped {H : Type} {enc : TypeId × Value → H} {a : Assume} {C : Checked} {os : Os} {f : FuncId} {fn : Func} {s : ChangeSpec} {conds : List PathCond} {apart fresh handsOn again : Bool} {X : World → Array Value → Prop}
    (hX : ∀ (w w' : World) (args : Array Value), w.heap = w'.heap → X w args → X w' args)
    (own : ownKnob C.prog.godebug = none) (started : os.Started) (noInit : C.prog.inits.idxOf? f = none) (hfn : C.prog.funcs[f]? = some fn)
    (witness : ∃ (w : World) (tape : Tape) (i : Input), w.os = os ∧ (w.forCall tape i).Shaped C.prog ∧ i.vars = [] ∧ Input.okWide C.prog (w.forCall tape i) .any w.heap.size f i ∧
      ((s.pre enc C.prog fn conds apart (w.forCall tape i).memory i.args ∧ X (w.forCall tape i).memory i.args) ∧ sizedMet enc C.prog fn (OpenSpec.ofChange s) apart (w.forCall tape i).memory i.args) ∧ a.holds C.prog (lone (Frame.enter C.prog f i.args .normal) [] (w.forCall tape i)))
    (contract : ∀ (W : World) (base : Nat) (args : Array Value) (ds gs : List (DataW H)) (before : List MemPlace),
      (∀ (j : Nat) t v, fn.params[j]? = some t → args[j]? = some v → Value.okWide C.prog W .any base t v) →
      DataW.Whole enc C.prog fn.params.toList s.vars apart W args.toList ds gs before →
      conds.all (PathCond.test C.prog ⟨fn.params.toList, ds, s.plain.varTypes C.prog, gs⟩) = true →
      (DataW.weightsEach C.prog (fn.params.toList ++ s.plain.varTypes C.prog) (ds ++ gs)).all (· ≤ reachBytes) = true → X W args →
      W.ShapedOpen C.prog →
      a.holds C.prog (lone (Frame.enter C.prog f args .normal) [] W) →
      Calls C.prog f args W fun e W' => ∃ v, e = .returned v ∧ s.post enc C.prog fn apart fresh handsOn again W args v W') :
    ReturnsInHanded a C os f .any (fun w args => (s.pre enc C.prog fn conds apart w args ∧ X w args) ∧ sizedMet enc C.prog fn (OpenSpec.ofChange s) apart w args) (s.post enc C.prog fn apart fresh handsOn again) := by
  refine returnsInHanded_of_calls own started noInit witness ?_
  intro w tape i _ hsh _ hok hpre hholds
  obtain ⟨_, _, _, fn', hfn', _, _, _, _, hval⟩ := hok
  have e : fn' = fn := Option.some.inj (hfn'.symm.trans hfn)
  subst e
  obtain ⟨⟨⟨ds, gs, before, hw, hc⟩, hx⟩, hz⟩ := hpre
  have hw' := DataW.Whole.of_heap (w' := w.forCall tape i) (by rfl) hw
  refine (contract (w.forCall tape i) w.heap.size i.args ds gs before hval hw' hc (hz.weights hw) (hX _ _ _ (by rfl) hx) hsh hholds).mono fun e W' ⟨v, he, hp⟩ => ?_
  subst he
  exact ChangeSpec.post_blind hp
end Go.Proofs
set_option linter.unusedVariables false
set_option linter.unusedSimpArgs false
namespace M
open Go Go.RowKit
theorem trimPrefix_len (s c : Str) : (Lib.trimPrefix s c).length ≤ s.length := by
  unfold Lib.trimPrefix
  split
  · simp
  · exact Nat.le_refl _
theorem cutPrefixO_sound [B : Bs] {P : Program} {f0 : FuncId} (hc : ∀ (s p : ByteArray) (w : World),
    Calls P f0 #[.string s, .string p] w fun e w' => e = .returned (.tuple #[.string ⟨(Lib.trimPrefix s.data.toList p.data.toList).toArray⟩, .bool (Lib.hasPrefix s.data.toList p.data.toList)]) ∧ w' = w) : (newO f0 cutPrefixG).Sound P :=
  newO_sound fun xs r hg w zl zb cs hx hA hs => by
    unfold cutPrefixG at hg
    split at hg
    · rename_i s c
      split at hg
      · rename_i hh
        cases hg
        obtain rfl := two_str hx
        have hl := trimPrefix_len s.data.toList c.data.toList
        refine (hc s c w).mono fun e w' ⟨he, hw⟩ => ?_
        subst hw
        refine ⟨tupC [.str ⟨(Lib.trimPrefix s.data.toList c.data.toList).toArray⟩, .bool (Lib.hasPrefix s.data.toList c.data.toList)], ?_, ?_, Below.refl _ _, fresh_tup fun x hx => ?_⟩
        · rw [he, tupC_val]; rfl
        · rw [tupC_er]; rfl
        · have e1 : s.size = s.data.toList.length := Lib.size_eq _
          simp only [List.mem_cons, List.not_mem_nil, or_false] at hx
          rcases hx with rfl | rfl
          · exact ⟨fresh_str (by simp only [ByteArray.size, List.size_toArray]; omega), trivial, fun _ _ h => h⟩
          · exact ⟨fresh_bool, trivial, fun _ _ h => h⟩
      · cases hg
    · cases hg
end M
set_option linter.unusedVariables false
set_option linter.unusedSimpArgs false
namespace M
open Go Go.RowKit
theorem strsOf_eq : ∀ {rows : List (List X)} {l : List Str}, strsOf rows = some l → rows = l.map fun s => [X.str ⟨s.toArray⟩] := by
  intro rows
  induction rows with
  | nil => intro l h; simp [strsOf] at h; subst h; rfl
  | cons r rows ih =>
    intro l h
    match r, h with
    | [.str a], h =>
      simp only [strsOf] at h
      cases hs : strsOf rows with
      | none => rw [hs] at h; simp at h
      | some l' =>
        rw [hs] at h
        simp at h
        subst h
        rw [ih hs]
        simp
theorem joinO_sound [B : Bs] {P : Program} {f0 : FuncId}
    (hc0 : ∀ (a : Option Addr) (c : Nat) (sep : ByteArray) (w : World), Calls P f0 #[.slice a 0 c, .string sep] w fun e w' => e = .returned (.string ⟨#[]⟩) ∧ w' = w)
    (hc : ∀ (bk o c : Nat) (xs : List ByteArray) (sep : ByteArray) (w : World), (∀ (j : Nat) x, xs[j]? = some x → w.cell? ⟨bk, o + j, none⟩ = some (.string x)) → bk < w.heap.size → xs.length ≤ 140737488355328 → xs.length ≤ c → (Lib.join (xs.map (·.data.toList)) sep.data.toList).length ≤ 140737488355328 →
      Calls P f0 #[.slice (some ⟨bk, o, none⟩) xs.length c, .string sep] w fun e w' => e = .returned (.string ⟨(Lib.join (xs.map (·.data.toList)) sep.data.toList).toArray⟩) ∧ Below w.heap.size w w') : (newO f0 joinG).Sound P :=
  newO_sound fun xs r hg w zl zb cs hx hA hs => by
    unfold joinG at hg
    split at hg
    · rename_i rows sep
      split at hg
      · rename_i l hl
        split at hg
        · rename_i hh
          cases hg
          obtain ⟨c1, r1, rfl, h1, h2⟩ := map_cons hx
          obtain ⟨c2, r2, rfl, h3, h4⟩ := map_cons h2
          obtain rfl := map_nil h4
          obtain rfl := er_str0 h3
          obtain ⟨A, len, cap, e, rfl, hlen, hrow⟩ := er_row0 h1
          have hrows := strsOf_eq hl
          have hll : len = l.length := by rw [hlen, hrows]; simp
          have ok := hA.ok _ (List.mem_cons_self ..)
          obtain ⟨k1, k2, k3, k4, k5⟩ := ok
          have fin : ∀ (s : Str), s.length ≤ 140737488355328 → FreshC w w (.str ⟨s.toArray⟩) := fun s h => fresh_str (by simp only [ByteArray.size, List.size_toArray]; omega)
          rcases Nat.eq_zero_or_pos len with h0 | hp
          · subst h0
            have hl0 : l = [] := List.length_eq_zero_iff.1 hll.symm
            subst hl0
            refine (hc0 _ cap sep w).mono fun e w' ⟨he, hw⟩ => ?_
            subst hw
            exact ⟨.str ⟨#[]⟩, he, by simp [C.er, strX, Lib.join], Below.refl _ _, fresh_str (by simp [ByteArray.size])⟩
          · obtain ⟨g, o, hAd, hc00, _⟩ := k2 0 0 hp (by omega)
            subst hAd
            have hcell : ∀ (j : Nat) x, (l.map fun s => (⟨s.toArray⟩ : ByteArray))[j]? = some x → w.cell? ⟨g, o + j, none⟩ = some (.string x) := by
              intro j x hj
              have hj2 : j < l.length := by
                have := List.getElem?_eq_some_iff.1 hj
                simpa using this.1
              obtain ⟨g', o', hAd', hc', _⟩ := k2 j 0 (by omega) (by omega)
              cases hAd'
              have hr := hrow j (by omega)
              rw [hrows] at hr
              have he0 : (e j 0).er = .str x := by
                rw [List.getElem?_map] at hr hj
                cases hlj : l[j]? with
                | none => rw [hlj] at hj; simp at hj
                | some s =>
                  rw [hlj] at hr hj
                  simp at hr hj
                  rw [← hr, hj]
              rw [er_str0 he0] at hc'
              simpa [C.val] using hc'
            have hbk : g < w.heap.size := by
              rcases Nat.lt_or_ge g w.heap.size with h | h
              · exact h
              · simp [World.cell?, Array.getElem?_eq_none h] at hc00
            have hmap : (l.map fun s => (⟨s.toArray⟩ : ByteArray)).map (·.data.toList) = l := by simp [Function.comp_def]
            have key := hc g o cap (l.map fun s => ⟨s.toArray⟩) sep w hcell hbk (by simpa using hh.2) (by simp; omega) (by rw [hmap]; exact hh.1)
            rw [hmap] at key
            simp only [List.length_map, ← hll] at key
            refine Calls.mono key fun e w' ⟨he, hb⟩ => ?_
            exact ⟨.str ⟨(Lib.join l sep.data.toList).toArray⟩, he, rfl, hb, fresh_str (by have := hh.1; simp only [ByteArray.size, List.size_toArray]; omega)⟩
        · cases hg
      · cases hg
    · cases hg
end M
